/- Text 10 of 10 of this claim: a machine of plain values beside the model, what the functions of the program and of the reference answer over it, and last the row and its card. -/
import Derived.Test.YtebekndmhgmfbaaDoorRK8
import Derived.Test.YtebekndmhgmfbaaDoorRK9
import Derived.WalkKit
import Derived.ProofKit
import Derived.Carry
import Derived.Lay
import Derived.SevenTiedAt
import Derived.Deep.Slices
import Derived.OpenShut
import Derived.Test.YtebekndmhgmfbaaDoorCards
import Derived.Test.YtebekndmhgmfbaaDoorTie
import Derived.Conc.Holds
set_option linter.unusedVariables false
set_option linter.unusedSimpArgs false
namespace Go.Vs.Tryd
open Go.Proofs
variable {G : Nat → List V}
set_option linter.unusedSimpArgs false
attribute [local go_sem] lenO_nils lenO_sl sliceAtV Int.sub_zero List.length_append List.all_append ge_iff_le gt_iff_lt Int.natCast_nonneg Int.toNat_natCast Nat.mul_one b_and_ll b_shr_ll b_mul_ll b_add_ll b_or_ll b_shl_ll pick_ll pick_lc pick_bb driveS stopV Option.isSome_some Option.isSome_none Kind.m Kind.w Kind.g look_ro look_rw look_grow drive stepV exo expo evs fillV isNil nilKind eqV eqL optA optM sliceAtV ev kn ldc stc splice appV srcV lenV setd wantV exitV rvs rv one List.length_cons List.length_nil List.cons_append List.nil_append List.append_nil List.replicate List.getD_cons_zero List.getD_cons_succ List.set_cons_zero List.set_cons_succ List.getElem?_cons_zero List.getElem?_cons_succ List.getElem?_nil List.take_succ_cons List.take_zero List.take_nil List.drop_succ_cons List.drop_zero List.drop_nil List.all_cons List.all_nil List.any_cons List.any_nil Bool.and_true Bool.true_and Bool.and_self Option.map_some Option.map_none Option.bind_some Option.some.injEq Nat.add_zero Nat.zero_add Int.toNat_zero Int.toNat_one Int.zero_add Int.add_zero if_true if_false ite_true ite_false and_true true_and and_self ne_eq not_false_eq_true not_true_eq_false decide_true decide_false Bool.false_eq_true Bool.not_true Bool.not_false beq_self_eq_true BEq.rfl Bool.not_eq_true Nat.le_refl Int.le_refl Nat.zero_le List.foldl List.map_cons List.map_nil Prod.mk.injEq Int.cast_ofNat_Int Int.zero_le_ofNat b_add_cc b_add_cl b_add_lc b_mul_cc b_mul_cl b_mul_lc b_sub_cc b_sub_cl b_sub_lc b_and_cc b_and_cl b_and_lc b_or_cc b_or_cl b_or_lc b_xor_cc b_xor_cl b_xor_lc b_andNot_cc b_andNot_cl b_andNot_lc b_shr_cc b_shr_cl b_shr_lc b_shl_cc b_shl_cl b_shl_lc b_lss b_leq b_gtr b_geq b_add_i b_sub_i b_mul_i beq_cc beq_cl beq_lc beq_ll b_quo_i b_rem_i neg_u64 wrap_i64 driveD stepD idsAt idOf maskH_nil restore_nil restore_mask List.filterMap_nil List.filterMap_cons VOp.looks VOp.makes exA cells_agg cells_int cells_bool cells_str cells_nilp cells_ptr cells_glob cells_nils cells_sl cells_nilf cells_fn cells_nili cells_ifc known_agg known_tup known_int known_bool known_str known_nilp known_ptr known_glob known_nils known_sl known_nilf known_fn known_nili known_ifc known_unk one_agg one_tup one_int one_bool one_str one_nilp one_ptr one_glob one_nils one_sl one_nilf one_fn one_nili one_ifc asK_int asN_int asB_bool asS_str asG_agg asT_tup true_or or_true false_or or_false
attribute [local go_sem_proc] Nat.reduceAdd Nat.reduceSub Nat.reduceLeDiff Nat.reduceMul Nat.reduceLT Nat.reduceEqDiff Int.reduceLT Int.reduceLE Int.reduceAdd Int.reduceSub Int.reduceMul Int.reduceToNat reduceIte reduceCtorEq Nat.reduceBEq
section
attribute [local go_sem ↓] lc_len lc_take lc_drop lc_known lc_one lc_rens lc_cells lw_known lw_agg lw_asG scs_known scs_one scs_len lc_take_add lc_drop_add lenO_dv dv_known dv_one dv_ren
attribute [local go_sem] lt_nat lt_natl lt_lnat lt_ll bool_tf bool_ft
set_option maxRecDepth 100000
set_option maxHeartbeats 2000000
theorem bfit_dbp {f g : Nat → Nat} {n : Nat} (h : 0 < n) : bfit g (db f n) (some ⟨.grow, scs n f⟩) := by
  rw [db_pos h]
  exact bfit_g (scs_rens ..)
theorem bfit_sd {f : Nat → Nat} {P Q n m : Nat} {x y : V} (hx : ren f (dv 8 n) = x) (hy : ren f (dv 9 m) = y) : bfit f (some ⟨.rw, lc P ++ (lc Q ++ [dv 8 n, dv 9 m])⟩) (some ⟨.rw, lc P ++ (lc Q ++ [x, y])⟩) := by
  refine ⟨.inl rfl, ?_⟩
  have h := fit_rens f (lc P ++ (lc Q ++ [dv 8 n, dv 9 m]))
  simpa only [rens_append, lc_rens, rens, hx, hy] using h
theorem ren_dp {f : Nat → Nat} {i j n : Nat} (h : 0 < n) (e : f i = j) : ren f (dv i n) = .sl j 0 n (.grow 4) := by rw [dv_ren, dv_pos h, e]
theorem ren_dd {f : Nat → Nat} {i n : Nat} (e : f i = i) : ren f (dv i n) = dv i n := by rw [dv_ren, e]
theorem ren_sd {f : Nat → Nat} {i n : Nat} {c : Cap} (e : f i = i) : ren f (.sl i 0 n c) = .sl i 0 n c := by rw [ren, e]
def tm20 : List V := [.unk, .unk, .unk, .ptr 5 0, .ptr 6 0, .ptr 7 0] ++ List.replicate 20 .unk
section
variable (P Q' a b nG nH nL nR nU : Nat) (c1 c2 cL cR cU : Cap) (g h Lf Rf us : Nat → Nat) (rG rH rL rR rU : List V)
variable (hrG : ∀ f, rens f rG = rG) (hrH : ∀ f, rens f rH = rH) (hrL : ∀ f, rens f rL = rL) (hrR : ∀ f, rens f rR = rR) (hrU : ∀ f, rens f rU = rU)
include hrG hrH hrL hrR hrU
theorem gen_c (hnG : nG < 1000000) (hnH : nH < 1000000) (hnL : nL < 1000000) (hnR : nR < 1000000) (hnU : nU < 1000000) (Q : V → Heap → Prop) (hQ : Q (.fn (.func 60) [] [.ptr 5 0, .ptr 6 0, .ptr 7 0]) [some ⟨.ro, scs nG g ++ rG⟩, some ⟨.ro, scs nH h ++ rH⟩, some ⟨.ro, scs nL Lf ++ rL⟩, some ⟨.ro, scs nR Rf ++ rR⟩, some ⟨.ro, scs nU us ++ rU⟩, some ⟨.rw, lc P ++ (lc Q' ++ [dv 8 nG, dv 9 nH])⟩, some ⟨.rw, dv 10 nL :: dv 11 nR :: (lc a ++ lc b)⟩, some ⟨.rw, [dv 12 nU]⟩, db g nG, db h nH, db Lf nL, db Rf nR, db us nU]) :
    Run Tryd.prog G 20 5 Q ([.c (.seq (.reg v20_3) (.seq (.reg v20_4) .ret))], ⟨tm20, [some ⟨.ro, scs nG g ++ rG⟩, some ⟨.ro, scs nH h ++ rH⟩, some ⟨.ro, scs nL Lf ++ rL⟩, some ⟨.ro, scs nR Rf ++ rR⟩, some ⟨.ro, scs nU us ++ rU⟩, some ⟨.rw, lc P ++ (lc Q' ++ [dv 8 nG, dv 9 nH])⟩, some ⟨.rw, dv 10 nL :: dv 11 nR :: (lc a ++ lc b)⟩, some ⟨.rw, [.sl 4 0 nU cU]⟩, db g nG, db h nH, db Lf nL, db Rf nR]⟩) := by
  have mU : (nU * 32 ≤ 281474976710656) = True := eq_true (by omega)
  have kU : (nU ≤ 9223372036854775807) = True := eq_true (by omega)
  unfold tm20
  rcases Nat.eq_zero_or_pos nU with h0 | h0
  · subst h0
    rw [db_zero, dv_zero] at hQ
    refine run_driveS 80 ?_
    simp only [go_sem, v20_3, v20_4, mU, kU, if_true, scs_tk0, dv_zero, List.take_zero, List.length_nil, Nat.zero_mul, List.all_nil, scs_tkr, look_ro]
    refine run_ret_drop Tryd.func20 res20 [0, 1, 2, 3, 4, 5, 6, 7, 8, 9, 10, 11, 12] (.fn (.func 60) [] [.ptr 5 0, .ptr 6 0, .ptr 7 0]) _ rfl (by simp) ?_ ?_ ?_ hQ
    · exact hfit_cons rfl (bfit_sm2 hrG) (hfit_cons rfl (bfit_sm2 hrH) (hfit_cons rfl (bfit_sm2 hrL) (hfit_cons rfl (bfit_sm2 hrR) (hfit_cons rfl (bfit_sm2 hrU) (hfit_cons rfl (bfit_sd (ren_dd rfl) (ren_dd rfl)) (hfit_cons rfl (⟨.inl rfl, (bfit_x (ren_dd rfl) (ren_dd rfl)).2⟩) (hfit_cons rfl (bfit_u rfl) (hfit_cons rfl (bfit_dbg) (hfit_cons rfl (bfit_dbg) (hfit_cons rfl (bfit_dbg) (hfit_cons rfl (bfit_dbg) (hfit_cons_none hfit_nil))))))))))))
    · exact uniq_nodup (by decide)
    · simp only [go_sem, rr20, ren, rens, gmap]
  · have f0 : (nU = 0) = False := eq_false (by omega)
    refine run_driveS 80 ?_
    simp only [go_sem, v20_3, v20_4, f0, mU, kU, scs_tkr, look_ro]
    refine run_ret_drop Tryd.func20 res20 [0, 1, 2, 3, 4, 5, 6, 7, 8, 9, 10, 11, 12] (.fn (.func 60) [] [.ptr 5 0, .ptr 6 0, .ptr 7 0]) _ rfl (by simp) ?_ ?_ ?_ hQ
    · exact hfit_cons rfl (bfit_sm2 hrG) (hfit_cons rfl (bfit_sm2 hrH) (hfit_cons rfl (bfit_sm2 hrL) (hfit_cons rfl (bfit_sm2 hrR) (hfit_cons rfl (bfit_sm2 hrU) (hfit_cons rfl (bfit_sd (ren_dd rfl) (ren_dd rfl)) (hfit_cons rfl (⟨.inl rfl, (bfit_x (ren_dd rfl) (ren_dd rfl)).2⟩) (hfit_cons rfl (bfit_u (ren_dp h0 rfl)) (hfit_cons rfl (bfit_dbg) (hfit_cons rfl (bfit_dbg) (hfit_cons rfl (bfit_dbg) (hfit_cons rfl (bfit_dbg) (hfit_cons rfl (bfit_dbp h0) hfit_nil))))))))))))
    · exact uniq_nodup (by decide)
    · simp only [go_sem, rr20, ren, rens, gmap]
theorem gen_b (hnG : nG < 1000000) (hnH : nH < 1000000) (hnL : nL < 1000000) (hnR : nR < 1000000) (hnU : nU < 1000000) (Q : V → Heap → Prop) (hQ : Q (.fn (.func 60) [] [.ptr 5 0, .ptr 6 0, .ptr 7 0]) [some ⟨.ro, scs nG g ++ rG⟩, some ⟨.ro, scs nH h ++ rH⟩, some ⟨.ro, scs nL Lf ++ rL⟩, some ⟨.ro, scs nR Rf ++ rR⟩, some ⟨.ro, scs nU us ++ rU⟩, some ⟨.rw, lc P ++ (lc Q' ++ [dv 8 nG, dv 9 nH])⟩, some ⟨.rw, dv 10 nL :: dv 11 nR :: (lc a ++ lc b)⟩, some ⟨.rw, [dv 12 nU]⟩, db g nG, db h nH, db Lf nL, db Rf nR, db us nU]) :
    Run Tryd.prog G 20 5 Q ([.c (.seq (.drw v20_2) (.seq (.reg v20_3) (.seq (.reg v20_4) .ret)))], ⟨tm20, [some ⟨.ro, scs nG g ++ rG⟩, some ⟨.ro, scs nH h ++ rH⟩, some ⟨.ro, scs nL Lf ++ rL⟩, some ⟨.ro, scs nR Rf ++ rR⟩, some ⟨.ro, scs nU us ++ rU⟩, some ⟨.rw, lc P ++ (lc Q' ++ [dv 8 nG, dv 9 nH])⟩, some ⟨.rw, .sl 2 0 nL cL :: .sl 3 0 nR cR :: (lc a ++ lc b)⟩, some ⟨.rw, [.sl 4 0 nU cU]⟩, db g nG, db h nH]⟩) := by
  have mL : (nL * 32 ≤ 281474976710656) = True := eq_true (by omega)
  have kL : (nL ≤ 9223372036854775807) = True := eq_true (by omega)
  have mR : (nR * 32 ≤ 281474976710656) = True := eq_true (by omega)
  have kR : (nR ≤ 9223372036854775807) = True := eq_true (by omega)
  have next := gen_c (G := G) P Q' a b nG nH nL nR nU cU g h Lf Rf us rG rH rL rR rU hrG hrH hrL hrR hrU hnG hnH hnL hnR hnU Q hQ
  unfold tm20 at next ⊢
  rcases Nat.eq_zero_or_pos nL with hA | hA
  · subst hA
    rcases Nat.eq_zero_or_pos nR with hB | hB
    · subst hB
      refine run_driveS 80 ?_
      simp only [go_sem]
      refine run_drw (by kernel_rfl) ?_
      refine drun_drive 40 (p := (_, _)) ?_
      simp only [go_sem, v20_2, mL, kL, mR, kR, if_true, scs_tk0, dv_zero, List.take_zero, List.length_nil, Nat.zero_mul, List.all_nil, scs_tkr, look_ro, restore, Option.join_some, maskH, List.mapIdx_cons, List.mapIdx_nil, List.contains_cons, List.contains_nil, Bool.or_false, Bool.or_true, Bool.false_or, Bool.true_or, Nat.reduceBEq]
      refine drun_end ?_
      simp only [db_zero] at next
      refine run_rename [0, 1, 2, 3, 4, 5, 6, 7, 8, 9, 30, 31] rfl (by simp) ?_ ?_ ?_ next
      · exact hfit_cons rfl (bfit_sm2 hrG) (hfit_cons rfl (bfit_sm2 hrH) (hfit_cons rfl (bfit_sm2 hrL) (hfit_cons rfl (bfit_sm2 hrR) (hfit_cons rfl (bfit_sm2 hrU) (hfit_cons rfl (bfit_sd (ren_dd rfl) (ren_dd rfl)) (hfit_cons rfl (⟨.inl rfl, (bfit_x (rfl) (rfl)).2⟩) (hfit_cons rfl (bfit_u (ren_sd rfl)) (hfit_cons rfl (bfit_dbg) (hfit_cons rfl (bfit_dbg) (hfit_cons_none (hfit_cons_none hfit_nil)))))))))))
      · exact uniq_nodup (by decide)
      · simp only [go_sem, hfit, lc_fit, scs_fit, fit, ren, gmap, lw_plain, true_or, or_true]
    · have zR : (nR = 0) = False := eq_false (by omega)
      refine run_driveS 80 ?_
      simp only [go_sem]
      refine run_drw (by kernel_rfl) ?_
      refine drun_drive 40 (p := (_, _)) ?_
      simp only [go_sem, v20_2, zR, mL, kL, mR, kR, if_true, scs_tk0, dv_zero, List.take_zero, List.length_nil, Nat.zero_mul, List.all_nil, scs_tkr, look_ro, restore, Option.join_some, maskH, List.mapIdx_cons, List.mapIdx_nil, List.contains_cons, List.contains_nil, Bool.or_false, Bool.or_true, Bool.false_or, Bool.true_or, Nat.reduceBEq]
      refine drun_end ?_
      simp only [db_zero] at next
      refine run_rename [0, 1, 2, 3, 4, 5, 6, 7, 8, 9, 30, 10] rfl (by simp) ?_ ?_ ?_ next
      · exact hfit_cons rfl (bfit_sm2 hrG) (hfit_cons rfl (bfit_sm2 hrH) (hfit_cons rfl (bfit_sm2 hrL) (hfit_cons rfl (bfit_sm2 hrR) (hfit_cons rfl (bfit_sm2 hrU) (hfit_cons rfl (bfit_sd (ren_dd rfl) (ren_dd rfl)) (hfit_cons rfl (⟨.inl rfl, (bfit_x (rfl) (ren_dp hB rfl)).2⟩) (hfit_cons rfl (bfit_u (ren_sd rfl)) (hfit_cons rfl (bfit_dbg) (hfit_cons rfl (bfit_dbg) (hfit_cons_none (hfit_cons rfl (bfit_dbp hB) hfit_nil)))))))))))
      · exact uniq_nodup (by decide)
      · simp only [go_sem, hfit, lc_fit, scs_fit, fit, ren, gmap, lw_plain, true_or, or_true]
  · have zL : (nL = 0) = False := eq_false (by omega)
    rcases Nat.eq_zero_or_pos nR with hB | hB
    · subst hB
      refine run_driveS 80 ?_
      simp only [go_sem]
      refine run_drw (by kernel_rfl) ?_
      refine drun_drive 40 (p := (_, _)) ?_
      simp only [go_sem, v20_2, zL, mL, kL, mR, kR, if_true, scs_tk0, dv_zero, List.take_zero, List.length_nil, Nat.zero_mul, List.all_nil, scs_tkr, look_ro, restore, Option.join_some, maskH, List.mapIdx_cons, List.mapIdx_nil, List.contains_cons, List.contains_nil, Bool.or_false, Bool.or_true, Bool.false_or, Bool.true_or, Nat.reduceBEq]
      refine drun_end ?_
      simp only [db_zero] at next
      refine run_rename [0, 1, 2, 3, 4, 5, 6, 7, 8, 9, 10, 31] rfl (by simp) ?_ ?_ ?_ next
      · exact hfit_cons rfl (bfit_sm2 hrG) (hfit_cons rfl (bfit_sm2 hrH) (hfit_cons rfl (bfit_sm2 hrL) (hfit_cons rfl (bfit_sm2 hrR) (hfit_cons rfl (bfit_sm2 hrU) (hfit_cons rfl (bfit_sd (ren_dd rfl) (ren_dd rfl)) (hfit_cons rfl (⟨.inl rfl, (bfit_x (ren_dp hA rfl) (rfl)).2⟩) (hfit_cons rfl (bfit_u (ren_sd rfl)) (hfit_cons rfl (bfit_dbg) (hfit_cons rfl (bfit_dbg) (hfit_cons rfl (bfit_dbp hA) (hfit_cons_none hfit_nil)))))))))))
      · exact uniq_nodup (by decide)
      · simp only [go_sem, hfit, lc_fit, scs_fit, fit, ren, gmap, lw_plain, true_or, or_true]
    · have zR : (nR = 0) = False := eq_false (by omega)
      refine run_driveS 80 ?_
      simp only [go_sem]
      refine run_drw (by kernel_rfl) ?_
      refine drun_drive 40 (p := (_, _)) ?_
      simp only [go_sem, v20_2, zL, zR, mL, kL, mR, kR, scs_tkr, look_ro, restore, Option.join_some, maskH, List.mapIdx_cons, List.mapIdx_nil, List.contains_cons, List.contains_nil, Bool.or_false, Bool.or_true, Bool.false_or, Bool.true_or, Nat.reduceBEq]
      refine drun_end ?_
      refine run_rename [0, 1, 2, 3, 4, 5, 6, 7, 8, 9, 10, 11] rfl (by simp) ?_ ?_ ?_ next
      · exact hfit_cons rfl (bfit_sm2 hrG) (hfit_cons rfl (bfit_sm2 hrH) (hfit_cons rfl (bfit_sm2 hrL) (hfit_cons rfl (bfit_sm2 hrR) (hfit_cons rfl (bfit_sm2 hrU) (hfit_cons rfl (bfit_sd (ren_dd rfl) (ren_dd rfl)) (hfit_cons rfl (⟨.inl rfl, (bfit_x (ren_dp hA rfl) (ren_dp hB rfl)).2⟩) (hfit_cons rfl (bfit_u (ren_sd rfl)) (hfit_cons rfl (bfit_dbg) (hfit_cons rfl (bfit_dbg) (hfit_cons rfl (bfit_dbp hA) (hfit_cons rfl (bfit_dbp hB) hfit_nil)))))))))))
      · exact uniq_nodup (by decide)
      · simp only [go_sem, hfit, lc_fit, scs_fit, fit, ren, gmap, lw_plain, true_or, or_true]
theorem rounds_gen (hnG : nG < 1000000) (hnH : nH < 1000000) (hnL : nL < 1000000) (hnR : nR < 1000000) (hnU : nU < 1000000) (Q : V → Heap → Prop) (hQ : Q (.fn (.func 60) [] [.ptr 5 0, .ptr 6 0, .ptr 7 0]) [some ⟨.ro, scs nG g ++ rG⟩, some ⟨.ro, scs nH h ++ rH⟩, some ⟨.ro, scs nL Lf ++ rL⟩, some ⟨.ro, scs nR Rf ++ rR⟩, some ⟨.ro, scs nU us ++ rU⟩, some ⟨.rw, lc P ++ (lc Q' ++ [dv 8 nG, dv 9 nH])⟩, some ⟨.rw, dv 10 nL :: dv 11 nR :: (lc a ++ lc b)⟩, some ⟨.rw, [dv 12 nU]⟩, db g nG, db h nH, db Lf nL, db Rf nR, db us nU]) :
    VCall Tryd.prog G 20 [stL P Q' (.sl 0 0 nG c1) (.sl 1 0 nH c2), arL (.sl 2 0 nL cL) (.sl 3 0 nR cR) a b, .sl 4 0 nU cU] [some ⟨.ro, scs nG g ++ rG⟩, some ⟨.ro, scs nH h ++ rH⟩, some ⟨.ro, scs nL Lf ++ rL⟩, some ⟨.ro, scs nR Rf ++ rR⟩, some ⟨.ro, scs nU us ++ rU⟩] Q := by
  have mG : (nG * 32 ≤ 281474976710656) = True := eq_true (by omega)
  have kG : (nG ≤ 9223372036854775807) = True := eq_true (by omega)
  have mH : (nH * 32 ≤ 281474976710656) = True := eq_true (by omega)
  have kH : (nH ≤ 9223372036854775807) = True := eq_true (by omega)
  have next := gen_b (G := G) P Q' a b nG nH nL nR nU cL cR cU g h Lf Rf us rG rH rL rR rU hrG hrH hrL hrR hrU hnG hnH hnL hnR hnU Q hQ
  unfold tm20 at next
  refine vcall_body Tryd.func20 nm20 code20 nt20 ?_
  unfold stL arL
  refine run_driveS 80 ?_
  simp only [go_sem, v20, v20_0]
  rcases Nat.eq_zero_or_pos nG with hA | hA
  · subst hA
    rcases Nat.eq_zero_or_pos nH with hB | hB
    · subst hB
      refine run_drw (by kernel_rfl) ?_
      refine drun_drive 40 (p := (_, _)) ?_
      simp only [go_sem, v20_1, mG, kG, mH, kH, if_true, scs_tk0, dv_zero, List.take_zero, List.length_nil, Nat.zero_mul, List.all_nil, scs_tkr, look_ro, restore, Option.join_some, maskH, List.mapIdx_cons, List.mapIdx_nil, List.contains_cons, List.contains_nil, Bool.or_false, Bool.or_true, Bool.false_or, Bool.true_or, Nat.reduceBEq]
      refine drun_end ?_
      rw [st_t9, st_d10, st_ap]
      simp only [db_zero] at next
      refine run_rename [0, 1, 2, 3, 4, 5, 6, 7, 30, 31] rfl (by simp) ?_ ?_ ?_ next
      · exact hfit_cons rfl (bfit_sm2 hrG) (hfit_cons rfl (bfit_sm2 hrH) (hfit_cons rfl (bfit_sm2 hrL) (hfit_cons rfl (bfit_sm2 hrR) (hfit_cons rfl (bfit_sm2 hrU) (hfit_cons rfl (bfit_sd (rfl) (rfl)) (hfit_cons rfl (⟨.inl rfl, (bfit_x (ren_sd rfl) (ren_sd rfl)).2⟩) (hfit_cons rfl (bfit_u (ren_sd rfl)) (hfit_cons_none (hfit_cons_none hfit_nil)))))))))
      · exact uniq_nodup (by decide)
      · simp only [go_sem, hfit, lc_fit, scs_fit, fit, ren, gmap, lw_plain, true_or, or_true]
    · have zH : (nH = 0) = False := eq_false (by omega)
      refine run_drw (by kernel_rfl) ?_
      refine drun_drive 40 (p := (_, _)) ?_
      simp only [go_sem, v20_1, zH, mG, kG, mH, kH, if_true, scs_tk0, dv_zero, List.take_zero, List.length_nil, Nat.zero_mul, List.all_nil, scs_tkr, look_ro, restore, Option.join_some, maskH, List.mapIdx_cons, List.mapIdx_nil, List.contains_cons, List.contains_nil, Bool.or_false, Bool.or_true, Bool.false_or, Bool.true_or, Nat.reduceBEq]
      refine drun_end ?_
      rw [st_t9, st_d10, st_ap]
      simp only [db_zero] at next
      refine run_rename [0, 1, 2, 3, 4, 5, 6, 7, 30, 8] rfl (by simp) ?_ ?_ ?_ next
      · exact hfit_cons rfl (bfit_sm2 hrG) (hfit_cons rfl (bfit_sm2 hrH) (hfit_cons rfl (bfit_sm2 hrL) (hfit_cons rfl (bfit_sm2 hrR) (hfit_cons rfl (bfit_sm2 hrU) (hfit_cons rfl (bfit_sd (rfl) (ren_dp hB rfl)) (hfit_cons rfl (⟨.inl rfl, (bfit_x (ren_sd rfl) (ren_sd rfl)).2⟩) (hfit_cons rfl (bfit_u (ren_sd rfl)) (hfit_cons_none (hfit_cons rfl (bfit_dbp hB) hfit_nil)))))))))
      · exact uniq_nodup (by decide)
      · simp only [go_sem, hfit, lc_fit, scs_fit, fit, ren, gmap, lw_plain, true_or, or_true]
  · have zG : (nG = 0) = False := eq_false (by omega)
    rcases Nat.eq_zero_or_pos nH with hB | hB
    · subst hB
      refine run_drw (by kernel_rfl) ?_
      refine drun_drive 40 (p := (_, _)) ?_
      simp only [go_sem, v20_1, zG, mG, kG, mH, kH, if_true, scs_tk0, dv_zero, List.take_zero, List.length_nil, Nat.zero_mul, List.all_nil, scs_tkr, look_ro, restore, Option.join_some, maskH, List.mapIdx_cons, List.mapIdx_nil, List.contains_cons, List.contains_nil, Bool.or_false, Bool.or_true, Bool.false_or, Bool.true_or, Nat.reduceBEq]
      refine drun_end ?_
      rw [st_t9, st_d10, st_ap]
      simp only [db_zero] at next
      refine run_rename [0, 1, 2, 3, 4, 5, 6, 7, 8, 31] rfl (by simp) ?_ ?_ ?_ next
      · exact hfit_cons rfl (bfit_sm2 hrG) (hfit_cons rfl (bfit_sm2 hrH) (hfit_cons rfl (bfit_sm2 hrL) (hfit_cons rfl (bfit_sm2 hrR) (hfit_cons rfl (bfit_sm2 hrU) (hfit_cons rfl (bfit_sd (ren_dp hA rfl) (rfl)) (hfit_cons rfl (⟨.inl rfl, (bfit_x (ren_sd rfl) (ren_sd rfl)).2⟩) (hfit_cons rfl (bfit_u (ren_sd rfl)) (hfit_cons rfl (bfit_dbp hA) (hfit_cons_none hfit_nil)))))))))
      · exact uniq_nodup (by decide)
      · simp only [go_sem, hfit, lc_fit, scs_fit, fit, ren, gmap, lw_plain, true_or, or_true]
    · have zH : (nH = 0) = False := eq_false (by omega)
      refine run_drw (by kernel_rfl) ?_
      refine drun_drive 40 (p := (_, _)) ?_
      simp only [go_sem, v20_1, zG, zH, mG, kG, mH, kH, scs_tkr, look_ro, restore, Option.join_some, maskH, List.mapIdx_cons, List.mapIdx_nil, List.contains_cons, List.contains_nil, Bool.or_false, Bool.or_true, Bool.false_or, Bool.true_or, Nat.reduceBEq]
      refine drun_end ?_
      rw [st_t9, st_d10, st_ap]
      refine run_rename [0, 1, 2, 3, 4, 5, 6, 7, 8, 9] rfl (by simp) ?_ ?_ ?_ next
      · exact hfit_cons rfl (bfit_sm2 hrG) (hfit_cons rfl (bfit_sm2 hrH) (hfit_cons rfl (bfit_sm2 hrL) (hfit_cons rfl (bfit_sm2 hrR) (hfit_cons rfl (bfit_sm2 hrU) (hfit_cons rfl (bfit_sd (ren_dp hA rfl) (ren_dp hB rfl)) (hfit_cons rfl (⟨.inl rfl, (bfit_x (ren_sd rfl) (ren_sd rfl)).2⟩) (hfit_cons rfl (bfit_u (ren_sd rfl)) (hfit_cons rfl (bfit_dbp hA) (hfit_cons rfl (bfit_dbp hB) hfit_nil)))))))))
      · exact uniq_nodup (by decide)
      · simp only [go_sem, hfit, lc_fit, scs_fit, fit, ren, gmap, lw_plain, true_or, or_true]
end
def fvd (n : Nat) (i : Nat) : List V := [.unk, .unk, dv 0 n] ++ List.replicate 46 .unk ++ [dv 0 n, .int .i64 n, .int .i64 i] ++ List.replicate 6 .unk
theorem fits_loop_d (hG : G 0 = tbl) (us : Nat → Nat) (hus : ∀ j, us j < 115792089237316195423570985008687907853269984665640564039457584007913129639936) (n : Nat) (hn : n < 1000000) {Q : V → Heap → Prop} (hQ0 : (∀ j, j < n → us j % ell ≠ 0) → Q (.int .i64 0) [rob us n, none, none, none, none]) (hQ4 : (∃ j, j < n ∧ us j % ell = 0) → Q (.int .i64 4) [rob us n, none, none, none, none]) : ∀ m i, i + m = n → (∀ j, j < i → us j % ell ≠ 0) →
    Run Tryd.prog G 41 5 Q ([.l v41_11, .b 0, .c (.seq (.reg v41_13) .ret)], ⟨fvd n i, [rob us n, none, none, none, none]⟩)
  | 0, i, h, hz => by
    obtain rfl : i = n := by omega
    have h0 : ((i : Int) < (i : Int)) = False := eq_false (by omega)
    unfold fvd
    refine run_loop_eq v41_11.eq_1 ?_
    refine run_driveS 80 ?_
    simp only [go_sem, v41_5, h0]
    refine run_exit rfl ?_
    refine run_driveS 80 ?_
    simp only [go_sem, v41_13]
    refine run_ret_drop Tryd.func41 res41 [0, 1, 2, 3, 4] (.int .i64 0) _ rfl (by simp) ?_ ?_ ?_ (hQ0 hz)
    · exact hfit_cons rfl bfit_rob (hfit_cons_none (hfit_cons_none (hfit_cons_none (hfit_cons_none hfit_nil))))
    · simp [uniq, wrB]
    · simp only [go_sem, rr41, ren]
  | m + 1, i, h, hz => by
    have ih := fits_loop_d hG us hus n hn hQ0 hQ4 m (i + 1) (by omega)
    have h0 : ((i : Int) < (n : Int)) = True := eq_true (by omega)
    have hg := scs_get' n us (i := i) (by omega)
    have hn0 : 0 < n := by omega
    have hw : IntKind.i64.wrap ((i : Int) + 1) = ((i + 1 : Nat) : Int) := by rw [wrap_i64 (by omega) (by omega)]; omega
    unfold fvd at ih ⊢
    rw [dv_pos hn0, rob_pos hn0] at ih ⊢
    rw [rob_pos hn0] at hQ4
    refine run_loop_eq v41_11.eq_1 ?_
    refine run_driveS 80 ?_
    simp only [go_sem, v41_5, v41_9, v41_6, v41_7, h0, hg]
    refine run_call' rfl ?_
    simp only [go_sem, calV]
    refine is_zero' hG _ (hus i) ?_
    refine run_driveS 80 ?_
    simp only [go_sem]
    by_cases hz' : us i % ell = 0
    · refine run_cond_t (by simp only [go_sem, decide_eq_true hz']) ?_
      refine run_driveS 80 ?_
      simp only [go_sem, v41_8]
      refine run_ret_drop Tryd.func41 res41 [0, 1, 2, 3, 4] (.int .i64 4) _ rfl (by simp) ?_ ?_ ?_ (hQ4 ⟨i, by omega, hz'⟩)
      · exact hfit_cons rfl (bfit_same (scs_rens ..)) (hfit_cons_none (hfit_cons_none (hfit_cons_none (hfit_cons_none hfit_nil))))
      · simp [uniq, wrB]
      · simp only [go_sem, rr41, ren]
    · refine run_cond_f (by simp only [go_sem, decide_eq_false hz']) ?_
      refine run_driveS 80 ?_
      simp only [go_sem, v41_10, hw]
      refine run_rename [0, 1, 2, 3, 4] rfl (by simp) ?_ ?_ ?_ (ih (fun j hj => by
        by_cases e : j = i
        · subst e; exact hz'
        · exact hz j (by omega)))
      · exact hfit_cons rfl (bfit_same (scs_rens ..)) (hfit_cons_none (hfit_cons_none (hfit_cons_none (hfit_cons_none hfit_nil))))
      · simp [uniq, wrB]
      · simp only [go_sem, hfit, lc_fit, scs_fit, fit, ren, gmap, lw_plain, true_or, or_true]
theorem fits_d (hG : G 0 = tbl) (P Q' a b nG nH nL nR nU : Nat) (hnG : nG < 1000000) (hnU : nU < 1000000) (us : Nat → Nat) (hus : ∀ j, us j < 115792089237316195423570985008687907853269984665640564039457584007913129639936) (Q : V → Heap → Prop)
    (hQ2 : (∀ k, ¬ Fit nG nH nL nR nU k) → Q (.int .i64 2) [rob us nU, none, none, none, none])
    (hQ4 : ∀ k, Fit nG nH nL nR nU k → (∃ j, j < nU ∧ us j % ell = 0) → Q (.int .i64 4) [rob us nU, none, none, none, none])
    (hQ0 : ∀ k, Fit nG nH nL nR nU k → (∀ j, j < nU → us j % ell ≠ 0) → Q (.int .i64 0) [rob us nU, none, none, none, none]) :
    VCall Tryd.prog G 41 [stL P Q' (dv 1 nG) (dv 2 nH), arL (dv 3 nL) (dv 4 nR) a b, dv 0 nU] [rob us nU, none, none, none, none] Q := by
  refine vcall_body Tryd.func41 nm41 code41 nt41 ?_
  unfold stL arL
  refine run_driveS 80 ?_
  simp only [go_sem, v41, v41_0, v41_1]
  refine run_call' rfl ?_
  simp only [go_sem, calV]
  refine rounds_ nG hnG (fun k hk e => ?_) (fun hz => ?_)
  · have uk : ∀ k', nG = 2 ^ k' → k' = k := fun k' e' => pow_inj (e'.symm.trans e)
    by_cases h1 : nH = nG
    case neg =>
      have d0 : decide (nH = nG) = false := decide_eq_false h1
      refine run_driveS 80 ?_
      simp only [go_sem, v41_2, eq_int, d0]
      refine run_cond_t (by rfl) ?_
      refine run_driveS 80 ?_
      simp only [go_sem, v41_3]
      refine run_ret_drop Tryd.func41 res41 [0, 1, 2, 3, 4] (.int .i64 2) _ rfl (by simp) ?_ ?_ ?_ (hQ2 fun k' f => h1 (by obtain ⟨f1, f2, f3, f4, f5, f6⟩ := f; have := uk k' f1; omega))
      · exact hfit_cons rfl bfit_rob (hfit_cons_none (hfit_cons_none (hfit_cons_none (hfit_cons_none hfit_nil))))
      · simp [uniq, wrB]
      · simp only [go_sem, rr41, ren]
    have d0 : decide (nH = nG) = true := decide_eq_true h1
    by_cases h2 : nL = k
    case neg =>
      have d1 : decide (nL = k) = false := decide_eq_false h2
      refine run_driveS 80 ?_
      simp only [go_sem, v41_2, eq_int, d0, d1]
      refine run_cond_t (by rfl) ?_
      refine run_driveS 80 ?_
      simp only [go_sem, v41_3]
      refine run_ret_drop Tryd.func41 res41 [0, 1, 2, 3, 4] (.int .i64 2) _ rfl (by simp) ?_ ?_ ?_ (hQ2 fun k' f => h2 (by obtain ⟨f1, f2, f3, f4, f5, f6⟩ := f; have := uk k' f1; omega))
      · exact hfit_cons rfl bfit_rob (hfit_cons_none (hfit_cons_none (hfit_cons_none (hfit_cons_none hfit_nil))))
      · simp [uniq, wrB]
      · simp only [go_sem, rr41, ren]
    have d1 : decide (nL = k) = true := decide_eq_true h2
    by_cases h3 : nR = k
    case neg =>
      have d2 : decide (nR = k) = false := decide_eq_false h3
      refine run_driveS 80 ?_
      simp only [go_sem, v41_2, eq_int, d0, d1, d2]
      refine run_cond_t (by rfl) ?_
      refine run_driveS 80 ?_
      simp only [go_sem, v41_3]
      refine run_ret_drop Tryd.func41 res41 [0, 1, 2, 3, 4] (.int .i64 2) _ rfl (by simp) ?_ ?_ ?_ (hQ2 fun k' f => h3 (by obtain ⟨f1, f2, f3, f4, f5, f6⟩ := f; have := uk k' f1; omega))
      · exact hfit_cons rfl bfit_rob (hfit_cons_none (hfit_cons_none (hfit_cons_none (hfit_cons_none hfit_nil))))
      · simp [uniq, wrB]
      · simp only [go_sem, rr41, ren]
    have d2 : decide (nR = k) = true := decide_eq_true h3
    by_cases h4 : nU = k
    case neg =>
      have d3 : decide (nU = k) = false := decide_eq_false h4
      refine run_driveS 80 ?_
      simp only [go_sem, v41_2, eq_int, d0, d1, d2, d3]
      refine run_cond_t (by rfl) ?_
      refine run_driveS 80 ?_
      simp only [go_sem, v41_3]
      refine run_ret_drop Tryd.func41 res41 [0, 1, 2, 3, 4] (.int .i64 2) _ rfl (by simp) ?_ ?_ ?_ (hQ2 fun k' f => h4 (by obtain ⟨f1, f2, f3, f4, f5, f6⟩ := f; have := uk k' f1; omega))
      · exact hfit_cons rfl bfit_rob (hfit_cons_none (hfit_cons_none (hfit_cons_none (hfit_cons_none hfit_nil))))
      · simp [uniq, wrB]
      · simp only [go_sem, rr41, ren]
    have d3 : decide (nU = k) = true := decide_eq_true h4
    refine run_driveS 80 ?_
    simp only [go_sem, v41_2, eq_int, d0, d1, d2, d3]
    refine run_cond_f (by rfl) ?_
    refine run_driveS 80 ?_
    simp only [go_sem, v41_4, v41_12]
    refine run_rename [0, 1, 2, 3, 4] rfl (by simp) ?_ ?_ ?_ (fits_loop_d hG us hus nU hnU (hQ0 k ⟨e, hk, h1, h2, h3, h4⟩) (hQ4 k ⟨e, hk, h1, h2, h3, h4⟩) nU 0 (by omega) (fun j hj => by omega))
    · exact hfit_cons rfl bfit_rob (hfit_cons_none (hfit_cons_none (hfit_cons_none (hfit_cons_none hfit_nil))))
    · simp [uniq, wrB]
    · unfold fvd
      simp only [go_sem, hfit, lc_fit, scs_fit, fit, ren, gmap, lw_plain, true_or, or_true]
  · refine run_driveS 80 ?_
    simp only [go_sem, v41_2]
    refine run_cond_t (by rfl) ?_
    refine run_driveS 80 ?_
    simp only [go_sem, v41_3]
    refine run_ret_drop Tryd.func41 res41 [0, 1, 2, 3, 4] (.int .i64 2) _ rfl (by simp) ?_ ?_ ?_ (hQ2 fun k' f => hz k' f.2.1 f.1)
    · exact hfit_cons rfl bfit_rob (hfit_cons_none (hfit_cons_none (hfit_cons_none (hfit_cons_none hfit_nil))))
    · simp [uniq, wrB]
    · simp only [go_sem, rr41, ren]
theorem rounds_bad (hG : G 0 = tbl) (P Q' a b nG nH nL nR nU : Nat) (hnG : nG < 1000000) (hnU : nU < 1000000) (us : Nat → Nat) (hus : ∀ j, us j < 115792089237316195423570985008687907853269984665640564039457584007913129639936) (hbad : (∀ k, ¬ Fit nG nH nL nR nU k) ∨ ∃ j, j < nU ∧ us j % ell = 0) (y : Blk) (hy : ∀ f : Nat → Nat, bfit f (some y) (some y)) (hyw : wrB (some y) = true) (Q : V → Heap → Prop)
    (hQ : Q (.tup []) [some ⟨.ro, lc P ++ (lc Q' ++ [dv 3 nG, dv 4 nH])⟩, some ⟨.ro, dv 5 nL :: dv 6 nR :: (lc a ++ lc b)⟩, some ⟨.ro, [dv 7 nU]⟩, none, none, none, none, rob us nU, some y]) :
    VCall Tryd.prog G 60 [.yld 8, .ptr 0 0, .ptr 1 0, .ptr 2 0] [some ⟨.ro, lc P ++ (lc Q' ++ [dv 3 nG, dv 4 nH])⟩, some ⟨.ro, dv 5 nL :: dv 6 nR :: (lc a ++ lc b)⟩, some ⟨.ro, [dv 7 nU]⟩, none, none, none, none, rob us nU, some y] Q := by
  have hfits := fits_d (G := G) hG P Q' a b nG nH nL nR nU hnG hnU us hus (fun v k => (∃ e : Int, e ≠ 0 ∧ v = .int .i64 e) ∧ k = [rob us nU, none, none, none, none]) (fun _ => ⟨⟨2, by decide, rfl⟩, rfl⟩) (fun _ _ _ => ⟨⟨4, by decide, rfl⟩, rfl⟩) (fun k hk hz => by
    rcases hbad with e | ⟨j, hj, e⟩
    · exact absurd hk (e k)
    · exact absurd e (hz j hj))
  refine vcall_body Tryd.func60 nm60 code60 nt60 ?_
  refine run_driveS 80 ?_
  simp only [go_sem, v60, v60_0]
  refine run_call' rfl ?_
  simp only [go_sem, calV]
  refine vcall_at hfits [7, 3, 4, 5, 6] (by simp) ?_ ?_ ?_ ?_
  · exact hfit_cons rfl bfit_rob (hfit_cons_none (hfit_cons_none (hfit_cons_none (hfit_cons_none hfit_nil))))
  · simp [uniq, wrB_rob, wrB_none]
  · simp only [rens, ren, gmap, stL_ren, arL_ren, dv_ren, stL, arL, rens_append, lc_rens]
  rintro v k ⟨⟨e, he, rfl⟩, rfl⟩
  rw [puts_ro (by simp [wrB_rob, wrB_none]) rfl (by simp)]
  simp only [List.drop_succ_cons, List.drop_zero, List.length_cons, List.length_nil, List.map_nil, List.append_nil, Nat.reduceAdd, ren, rens, gmap]
  have hne : (e == 0) = false := by simpa using he
  refine run_driveS 80 ?_
  simp only [go_sem, hne]
  refine run_cond_t (by rfl) ?_
  refine run_ret_drop Tryd.func60 res60 [0, 1, 2, 3, 4, 5, 6, 7, 8] (.tup []) _ rfl (by simp) ?_ ?_ ?_ hQ
  · exact hfit_cons rfl (bfit_same (by simp only [rens_append, lc_rens, rens, dv_ren, gmap])) (hfit_cons rfl (bfit_same (by simp only [rens_append, lc_rens, rens, dv_ren, gmap])) (hfit_cons rfl (bfit_same (by simp only [rens, dv_ren, gmap])) (hfit_cons_none (hfit_cons_none (hfit_cons_none (hfit_cons_none (hfit_cons rfl bfit_rob (hfit_cons rfl (hy _) hfit_nil))))))))
  · exact uniq_nodup (by decide)
  · simp only [go_sem, rr60, ren, rens, gmap]
end
section
attribute [local go_sem ↓] lc_len lc_take lc_drop lc_known lc_one lc_rens lc_cells lw_known lw_agg lw_asG scs_known scs_one scs_len
attribute [local go_sem] lt_nat lt_natl lt_lnat lt_ll bool_tf bool_ft ivl_known ivl_one'
attribute [local go_sem ↓] ecs_len ecs_take ecs_drop ecs_known ecs_one ecs_rens ecs_fit ecs_cells ew_known ew_agg ew_asG ecs_kind ecs_k ecs_l ers_known ers_one ers_len ers_rens ers_fit
attribute [local go_sem ↓] ecs_take_add ecs_drop_add lc_take_add lc_drop_add lenO_de lenO_dv de_known dv_known de_one dv_one de_ren dv_ren
attribute [local go_sem ↓] lc_len lc_take lc_drop lc_known lc_one lc_rens lc_cells lw_known lw_agg lw_asG scs_known scs_one scs_len
attribute [local go_sem] lt_nat lt_natl lt_lnat lt_ll bool_tf bool_ft
attribute [local go_sem ↓] ecs_len ecs_take ecs_drop ecs_known ecs_one ecs_rens ecs_fit ecs_cells ew_known ew_agg ew_asG ecs_kind ecs_k ecs_l ers_known ers_one ers_len ers_rens ers_fit
attribute [local go_sem ↓] ivl_known ivl_one lc_take_add lc_drop_add ecs_take_add ecs_drop_add lenO_de lenO_dv de_known dv_known de_one dv_one de_ren dv_ren
attribute [local go_sem ↓] trs_len trs_known
set_option maxRecDepth 100000
set_option maxHeartbeats 2000000
attribute [local go_sem] yld_known
theorem wrB_E4 (us g h Lf Rf : Nat → Nat) (N P Q' : Nat) (c : Cap) (i : Nat) : wrB (E4 us g h Lf Rf N P Q' c i) = false := by
  match i with
  | 0 => rfl
  | 1 => rfl
  | 2 => rfl
  | 3 => rfl
  | j + 4 => exact wrB_DE ..
theorem DE_map (us g h : Nat → Nat) (N i j : Nat) (f : Nat → Nat) : (DE us g h N i j).map (renB f) = DE us g h N i j := by
  unfold DE
  split
  · simp only [Option.map_some, renB, ers_rens]
  · rfl
theorem fit_same2 {f : Nat → Nat} {i j n : Nat} {c : Cap} (h : f i = j) : fit f [.sl i 0 n c] [.sl j 0 n c] := ⟨.inr (by rw [ren, h]), trivial⟩
def p5 : Nat → Nat
  | 0 => 10
  | t + 1 => 24 + 2 * t
def q5 : Nat → Nat
  | 0 => 11
  | t + 1 => 25 + 2 * t
theorem p5_fix {f : Nat → Nat} {t : Nat} (hf : ∀ i, i < 52 → f i = i) (ht : t < 11) : f (p5 t) = p5 t := hf _ (by cases t <;> simp only [p5] <;> omega)
theorem q5_fix {f : Nat → Nat} {t : Nat} (hf : ∀ i, i < 52 → f i = i) (ht : t < 11) : f (q5 t) = q5 t := hf _ (by cases t <;> simp only [q5] <;> omega)
section
variable (us g h l r : Nat → Nat) (N : Nat) (c : Cap) (Q' P ea eb' nG mG nH mH nA mA nB mB nL mL nR mR nU mU : Nat) (zG zH zA zB zL zR zU : Bool) (sc lab : V) (N' : Int)
def tm5' : List V := [.unk, .ptr 7 0, .bool false, .ptr 12 0, .unk, .unk, .unk, .unk, .ptr 21 0, .fn (.func 60) [] [.ptr 44 0, .ptr 45 0, .ptr 46 0], .ptr 52 0] ++ List.replicate 118 .unk
noncomputable def hp5 (s : Nat) : Heap := [ivb g nG zG, ivb h nH zH, none, none, ivb l nL zL, ivb r nR zR, ivb us nU zU, some ⟨.rw, cas Q' P (ivl 0 nG mG zG) (ivl 1 nH mH zH) (ivl 2 nA mA zA) (ivl 3 nB mB zB) (ivl 4 nL mL zL) (ivl 5 nR mR zR) ea eb' sc (ivl 6 nU mU zU) lab (.int .i64 N')⟩, some ⟨.ro, scs (2 ^ N) g ++ lc 77⟩, some ⟨.ro, scs (2 ^ N) h ++ lc 77⟩, some ⟨.ro, ers (2 ^ N) (fun j => g j % ell)⟩, some ⟨.ro, ers (2 ^ N) (fun j => h j % ell)⟩, some ⟨.rw, lc P ++ (lc Q' ++ [.sl 8 0 (2 ^ N) (.exact (2 ^ N + 1)), .sl 9 0 (2 ^ N) (.exact (2 ^ N + 1))])⟩, none, none, none, none, none, none, none, none, some ⟨.rw, [.sl 23 0 (N + 1) c]⟩, none, some ⟨.ro, wts (fun j => us j % ell) (fun j => l j % ell) (fun j => r j % ell) N (P % ell) (Q' % ell) p5 q5 (N + 1)⟩, DE (fun j => us j % ell) (fun j => g j % ell) (fun j => h j % ell) N N 0, DE (fun j => us j % ell) (fun j => g j % ell) (fun j => h j % ell) N N 1, DE (fun j => us j % ell) (fun j => g j % ell) (fun j => h j % ell) N N 2, DE (fun j => us j % ell) (fun j => g j % ell) (fun j => h j % ell) N N 3, DE (fun j => us j % ell) (fun j => g j % ell) (fun j => h j % ell) N N 4, DE (fun j => us j % ell) (fun j => g j % ell) (fun j => h j % ell) N N 5, DE (fun j => us j % ell) (fun j => g j % ell) (fun j => h j % ell) N N 6, DE (fun j => us j % ell) (fun j => g j % ell) (fun j => h j % ell) N N 7, DE (fun j => us j % ell) (fun j => g j % ell) (fun j => h j % ell) N N 8, DE (fun j => us j % ell) (fun j => g j % ell) (fun j => h j % ell) N N 9, DE (fun j => us j % ell) (fun j => g j % ell) (fun j => h j % ell) N N 10, DE (fun j => us j % ell) (fun j => g j % ell) (fun j => h j % ell) N N 11, DE (fun j => us j % ell) (fun j => g j % ell) (fun j => h j % ell) N N 12, DE (fun j => us j % ell) (fun j => g j % ell) (fun j => h j % ell) N N 13, DE (fun j => us j % ell) (fun j => g j % ell) (fun j => h j % ell) N N 14, DE (fun j => us j % ell) (fun j => g j % ell) (fun j => h j % ell) N N 15, DE (fun j => us j % ell) (fun j => g j % ell) (fun j => h j % ell) N N 16, DE (fun j => us j % ell) (fun j => g j % ell) (fun j => h j % ell) N N 17, DE (fun j => us j % ell) (fun j => g j % ell) (fun j => h j % ell) N N 18, DE (fun j => us j % ell) (fun j => g j % ell) (fun j => h j % ell) N N 19, some ⟨.rw, lc P ++ (lc Q' ++ [.sl 47 0 (2 ^ N) (.grow 4), .sl 48 0 (2 ^ N) (.grow 4)])⟩, some ⟨.rw, dv 49 N :: dv 50 N :: (lc ea ++ lc eb')⟩, some ⟨.rw, [dv 51 N]⟩, some ⟨.grow, scs (2 ^ N) g⟩, some ⟨.grow, scs (2 ^ N) h⟩, db l N, db r N, db us N, some ⟨.rw, [.int .i64 (s : Nat)]⟩]
theorem gm_p {L t : Nat} (ht : t < 11) : gmap [44, 45, 46, 47, 48, 49, 50, 51, 55, 53, 54, 52, 21, 23, 10, 11, 24, 25, 26, 27, 28, 29, 30, 31, 32, 33, 34, 35, 36, 37, 38, 39, 40, 41, 42, 43] L (p4 t) = p5 t := by
  match t, ht with
  | 0, _ | 1, _ | 2, _ | 3, _ | 4, _ | 5, _ | 6, _ | 7, _ | 8, _ | 9, _ | 10, _ => rfl
theorem gm_q {L t : Nat} (ht : t < 11) : gmap [44, 45, 46, 47, 48, 49, 50, 51, 55, 53, 54, 52, 21, 23, 10, 11, 24, 25, 26, 27, 28, 29, 30, 31, 32, 33, 34, 35, 36, 37, 38, 39, 40, 41, 42, 43] L (q4 t) = q5 t := by
  match t, ht with
  | 0, _ | 1, _ | 2, _ | 3, _ | 4, _ | 5, _ | 6, _ | 7, _ | 8, _ | 9, _ | 10, _ => rfl
theorem tm4_fit (f : Nat → Nat) (hf : ∀ j, j < 36 → f j = j) : fit f tm4 tm4 := by
  unfold tm4
  simp only [go_sem, fit, ren, hf 9 (by decide), hf 10 (by decide), hf 11 (by decide), hf 12 (by decide), true_or, or_true]
theorem bfit_w5 {us g h Lf Rf : Nat → Nat} {N P Q' L : Nat} {c : Cap} (hN : N ≤ 10) : bfit (gmap [44, 45, 46, 47, 48, 49, 50, 51, 55, 53, 54, 52, 21, 23, 10, 11, 24, 25, 26, 27, 28, 29, 30, 31, 32, 33, 34, 35, 36, 37, 38, 39, 40, 41, 42, 43] L) (E4 us g h Lf Rf N P Q' c 1) (some ⟨.ro, wts (fun j => us j % ell) (fun j => Lf j % ell) (fun j => Rf j % ell) N (P % ell) (Q' % ell) p5 q5 (N + 1)⟩) := by
  refine ⟨.inl rfl, ?_⟩
  have h := fit_rens (gmap [44, 45, 46, 47, 48, 49, 50, 51, 55, 53, 54, 52, 21, 23, 10, 11, 24, 25, 26, 27, 28, 29, 30, 31, 32, 33, 34, 35, 36, 37, 38, 39, 40, 41, 42, 43] L) (wts (fun j => us j % ell) (fun j => Lf j % ell) (fun j => Rf j % ell) N (P % ell) (Q' % ell) p4 q4 (N + 1))
  rw [wts_ren _ _ _ _ _ _ p4 q4 p5 q5 _ _ (fun t ht => gm_p (by omega)) (fun t ht => gm_q (by omega))] at h
  exact h
theorem stop_step (hG : G 0 = tbl) (hN : N ≤ 10) (hus : ∀ j, us j < 115792089237316195423570985008687907853269984665640564039457584007913129639936) (hz : ∀ j, j < N → us j % ell ≠ 0) (hg : ∀ j, g j < 115792089237316195423570985008687907853269984665640564039457584007913129639936) (hh : ∀ j, h j < 115792089237316195423570985008687907853269984665640564039457584007913129639936) (hl : ∀ j, l j < 115792089237316195423570985008687907853269984665640564039457584007913129639936) (hr : ∀ j, r j < 115792089237316195423570985008687907853269984665640564039457584007913129639936) (hP : P < 115792089237316195423570985008687907853269984665640564039457584007913129639936) (hQ' : Q' < 115792089237316195423570985008687907853269984665640564039457584007913129639936) (hcas : ∀ f : Nat → Nat, f 0 = 0 → f 1 = 1 → f 2 = 2 → f 3 = 3 → f 4 = 4 → f 5 = 5 → f 6 = 6 → bfit f (some ⟨.rw, cas Q' P (ivl 0 nG mG zG) (ivl 1 nH mH zH) (ivl 2 nA mA zA) (ivl 3 nB mB zB) (ivl 4 nL mL zL) (ivl 5 nR mR zR) ea eb' sc (ivl 6 nU mU zU) lab (.int .i64 N')⟩) (some ⟨.rw, cas Q' P (ivl 0 nG mG zG) (ivl 1 nH mH zH) (ivl 2 nA mA zA) (ivl 3 nB mB zB) (ivl 4 nL mL zL) (ivl 5 nR mR zR) ea eb' sc (ivl 6 nU mU zU) lab (.int .i64 N')⟩)) (s : Nat) (hs : s ≤ N + 1) {Q : V → Heap → Prop} {K : List TI}
    (next : Run Tryd.prog G 4 7 Q (.l v4_36 :: .b 0 :: K, ⟨tm5', hp5 us g h l r N c Q' P ea eb' nG mG nH mH nA mA nB mB nL mL nR mR nU mU zG zH zA zB zL zR zU sc lab N' (s + 1)⟩)) :
    Run Tryd.prog G 4 7 Q (.c (.rng (.t 56) [57] v4_27 v4_28) :: .b 2 :: .c (.seq (.reg v4_30) (.cond (.t 115) (.seq (.reg v4_31) .ret) .skip)) :: .b 1 :: .c (.seq (.seq (.reg v4_33) (.reg v4_34)) (.reg v4_35)) :: .l v4_36 :: .b 0 :: K, ⟨[.unk, .ptr 7 0, .bool false, .ptr 12 0, .unk, .unk, .unk, .unk, .ptr 21 0, .fn (.func 60) [] [.ptr 44 0, .ptr 45 0, .ptr 46 0], .ptr 52 0, .ptr 53 0, .ptr 54 0] ++ List.replicate 43 .unk ++ [.fn (.func 60) [] [.ptr 44 0, .ptr 45 0, .ptr 46 0]] ++ List.replicate 72 .unk, hp5 us g h l r N c Q' P ea eb' nG mG nH mH nA mA nB mB nL mL nR mR nU mU zG zH zA zB zL zR zU sc lab N' s ++ [some ⟨.rw, [.int .i64 0]⟩, some ⟨.rw, [.bool true]⟩]⟩) := by
  unfold hp5
  refine run_range rfl enters60 (fun R r1 r2 r3 r4 r5 r6 => ?_)
  have hE := E4_fit us g h l r N P Q' c hN
  have hro := fun t ht hI B0 B1 B2 B3 B4 B5 B6 B7 B12 B13 B14 B17 => round4 (G := G) us g h l r N P Q' c hN hg hh hP hQ' s hs R r1 r2 r3 r4 r5 r6 t ht hI B0 B1 B2 B3 B4 B5 B6 B7 B12 B13 B14 B17
  have hr1 := rounds1e (G := G) us g h l r N P Q' ea eb' R tm4 A4 (fun _ => some ⟨.rw, [.bool true]⟩) (fun _ => some ⟨.rw, [.int .i64 s]⟩) (E4 us g h l r N P Q' c) hG hN hus hz hg hh hl hr hP hQ'
    tm4_fit (fun f t i j => bfit_g rfl) (fun f t => bfit_g rfl) (fun f t => bfit_g rfl) (fun _ _ => rfl) hE
    (fun v L => v = .tup [] ∧ ((s = 0 ∧ L = [bS N P Q', bX N ea eb', bU N, some ⟨.ro, scs (2 ^ N) g⟩, some ⟨.ro, scs (2 ^ N) h⟩, rob l N, rob r N, rob us N, some ⟨.loop R, tm4⟩, A4 (N + 1) 36 37, some ⟨.rw, [.bool true]⟩, some ⟨.rw, [.int .i64 s]⟩, E4 us g h l r N P Q' c 0, E4 us g h l r N P Q' c 1, E4 us g h l r N P Q' c 2, E4 us g h l r N P Q' c 3, E4 us g h l r N P Q' c 4, E4 us g h l r N P Q' c 5, E4 us g h l r N P Q' c 6, E4 us g h l r N P Q' c 7, E4 us g h l r N P Q' c 8, E4 us g h l r N P Q' c 9, E4 us g h l r N P Q' c 10, E4 us g h l r N P Q' c 11, E4 us g h l r N P Q' c 12, E4 us g h l r N P Q' c 13, E4 us g h l r N P Q' c 14, E4 us g h l r N P Q' c 15, E4 us g h l r N P Q' c 16, E4 us g h l r N P Q' c 17, E4 us g h l r N P Q' c 18, E4 us g h l r N P Q' c 19, E4 us g h l r N P Q' c 20, E4 us g h l r N P Q' c 21, E4 us g h l r N P Q' c 22, E4 us g h l r N P Q' c 23, none, none]) ∨
      (0 < s ∧ L = [bS N P Q', bX N ea eb', bU N, some ⟨.ro, scs (2 ^ N) g⟩, some ⟨.ro, scs (2 ^ N) h⟩, rob l N, rob r N, rob us N, some ⟨.loop { R with state := .done, pending := some (.exit 2) }, tm4⟩, some ⟨.rw, [.int .i64 s]⟩, some ⟨.rw, [.bool true]⟩, some ⟨.rw, [.int .i64 s]⟩, E4 us g h l r N P Q' c 0, E4 us g h l r N P Q' c 1, E4 us g h l r N P Q' c 2, E4 us g h l r N P Q' c 3, E4 us g h l r N P Q' c 4, E4 us g h l r N P Q' c 5, E4 us g h l r N P Q' c 6, E4 us g h l r N P Q' c 7, E4 us g h l r N P Q' c 8, E4 us g h l r N P Q' c 9, E4 us g h l r N P Q' c 10, E4 us g h l r N P Q' c 11, E4 us g h l r N P Q' c 12, E4 us g h l r N P Q' c 13, E4 us g h l r N P Q' c 14, E4 us g h l r N P Q' c 15, E4 us g h l r N P Q' c 16, E4 us g h l r N P Q' c 17, E4 us g h l r N P Q' c 18, E4 us g h l r N P Q' c 19, E4 us g h l r N P Q' c 20, E4 us g h l r N P Q' c 21, E4 us g h l r N P Q' c 22, E4 us g h l r N P Q' c 23])))
    (Fs4 R s) (fun t => s = 0 ∨ t < s) (by omega) (fun t ht hI B0 B1 B2 B3 B4 B5 B6 B7 B12 B13 B14 B17 => hro t ht hI B0 B1 B2 B3 B4 B5 B6 B7 B12 B13 B14 B17) (fun hI => ⟨rfl, .inl ⟨by omega, rfl⟩⟩) (by
      rintro r' A' B' C' ⟨h1, rfl, rfl, rfl, rfl⟩
      exact ⟨rfl, .inr ⟨h1, rfl⟩⟩)
  clear hro
  simp only [go_sem]
  refine vcall_at hr1 [44, 45, 46, 47, 48, 49, 50, 51, 55, 53, 54, 52, 21, 23, 10, 11, 24, 25, 26, 27, 28, 29, 30, 31, 32, 33, 34, 35, 36, 37, 38, 39, 40, 41, 42, 43] (by simp) ?_ ?_ ?_ ?_
  · exact hfit_cons rfl (bfit_st3 rfl rfl) (hfit_cons rfl (bfit_x3 rfl rfl) (hfit_cons rfl (bfit_u3 rfl) (hfit_cons rfl (bfit_same (scs_rens ..)) (hfit_cons rfl (bfit_same (scs_rens ..)) (hfit_cons rfl (bfit_db) (hfit_cons rfl (bfit_db) (hfit_cons rfl (bfit_db) (hfit_cons rfl (⟨.inl rfl, by unfold tm4; simp only [go_sem, fit, ren, gmap, true_or, or_true]⟩) (hfit_cons rfl (bfit_g rfl) (hfit_cons rfl (bfit_g rfl) (hfit_cons rfl (bfit_g rfl) (hfit_cons rfl (⟨.inr ⟨rfl, rfl⟩, fit_same2 rfl⟩) (hfit_cons rfl (bfit_w5 hN) (hfit_cons rfl (bfit_same (ers_rens ..)) (hfit_cons rfl (bfit_same (ers_rens ..)) (hfit_cons rfl (DE_fit) (hfit_cons rfl (DE_fit) (hfit_cons rfl (DE_fit) (hfit_cons rfl (DE_fit) (hfit_cons rfl (DE_fit) (hfit_cons rfl (DE_fit) (hfit_cons rfl (DE_fit) (hfit_cons rfl (DE_fit) (hfit_cons rfl (DE_fit) (hfit_cons rfl (DE_fit) (hfit_cons rfl (DE_fit) (hfit_cons rfl (DE_fit) (hfit_cons rfl (DE_fit) (hfit_cons rfl (DE_fit) (hfit_cons rfl (DE_fit) (hfit_cons rfl (DE_fit) (hfit_cons rfl (DE_fit) (hfit_cons rfl (DE_fit) (hfit_cons rfl (DE_fit) (hfit_cons rfl (DE_fit) hfit_nil)))))))))))))))))))))))))))))))))))
  · exact uniq_nodup (by decide +kernel)
  · simp only [rens, ren, gmap]
  clear hr1
  have w1 : wrB (bS N P Q') = false := rfl
  have w2 : wrB (bX N ea eb') = false := rfl
  have w3 : wrB (bU N) = false := rfl
  have w4 : wrB (some ⟨.loop R, tm4⟩) = true := rfl
  have w5 : wrB (A4 0 0 0) = true := rfl
  have w6 : wrB (some ⟨.rw, [.bool true]⟩) = true := rfl
  have w7 : wrB (some ⟨.rw, [.int .i64 s]⟩) = true := rfl
  rintro v L ⟨rfl, ⟨hs0, rfl⟩ | ⟨hs0, rfl⟩⟩
  · simp only [puts, w1, w2, w3, w4, w5, w6, w7, wrB_rob, wrB_ro, wrB_none, wrB_E4, Bool.false_eq_true, if_false, if_true]
    simp only [go_sem, A4, renB, rens, ren, gmap]
    refine ⟨R, _, _, rfl, by rw [r1]; decide, by rw [r2]; rfl, ?_⟩
    clear r1 r2 r3 r4 r5 r6
    have f1 : ((s : Int) == 0) = true := by rw [hs0]; rfl
    have f2 : ((0 : Int) < (s : Int)) = False := eq_false (by omega)
    have hw : IntKind.i64.wrap ((s : Int) + 1) = ((s + 1 : Nat) : Int) := by rw [wrap_i64 (by omega) (by omega)]; omega
    refine run_driveS 80 ?_
    simp only [go_sem, v4_30, eq_int, decide_true, f1, f2]
    refine run_cond_f (by rfl) ?_
    refine run_driveS 80 ?_
    simp only [go_sem, v4_33, v4_34, v4_35, hw]
    refine run_rename [0, 1, 2, 3, 4, 5, 6, 7, 8, 9, 10, 11, 12, 13, 14, 15, 16, 17, 18, 19, 20, 21, 22, 23, 24, 25, 26, 27, 28, 29, 30, 31, 32, 33, 34, 35, 36, 37, 38, 39, 40, 41, 42, 43, 44, 45, 46, 47, 48, 49, 50, 51, 58] rfl (by simp) ?_ ?_ ?_ next
    · unfold hp5
      exact hfit_cons rfl (bfit_ivb) (hfit_cons rfl (bfit_ivb) (hfit_cons_none (hfit_cons_none (hfit_cons rfl (bfit_ivb) (hfit_cons rfl (bfit_ivb) (hfit_cons rfl (bfit_ivb) (hfit_cons rfl (hcas _ rfl rfl rfl rfl rfl rfl rfl) (hfit_cons rfl (bfit_sm) (hfit_cons rfl (bfit_sm) (hfit_cons rfl (bfit_same (ers_rens ..)) (hfit_cons rfl (bfit_same (ers_rens ..)) (hfit_cons rfl (bfit_g (by simp only [rens_append, lc_rens, rens, ren, gmap])) (hfit_cons_none (hfit_cons_none (hfit_cons_none (hfit_cons_none (hfit_cons_none (hfit_cons_none (hfit_cons_none (hfit_cons_none (hfit_cons rfl (bfit_g (by simp only [rens, ren, gmap])) (hfit_cons_none (hfit_cons rfl (bfit_same (wts_ren _ _ _ _ _ _ _ _ _ _ _ _ (fun t ht => p5_fix (fun j hj => gmap_pre 52 [58] (by decide +kernel) hj) (by omega)) (fun t ht => q5_fix (fun j hj => gmap_pre 52 [58] (by decide +kernel) hj) (by omega)))) (hfit_cons rfl (DE_fit) (hfit_cons rfl (DE_fit) (hfit_cons rfl (DE_fit) (hfit_cons rfl (DE_fit) (hfit_cons rfl (DE_fit) (hfit_cons rfl (DE_fit) (hfit_cons rfl (DE_fit) (hfit_cons rfl (DE_fit) (hfit_cons rfl (DE_fit) (hfit_cons rfl (DE_fit) (hfit_cons rfl (DE_fit) (hfit_cons rfl (DE_fit) (hfit_cons rfl (DE_fit) (hfit_cons rfl (DE_fit) (hfit_cons rfl (DE_fit) (hfit_cons rfl (DE_fit) (hfit_cons rfl (DE_fit) (hfit_cons rfl (DE_fit) (hfit_cons rfl (DE_fit) (hfit_cons rfl (DE_fit) (hfit_cons rfl (bfit_g (by simp only [rens_append, lc_rens, rens, ren, gmap])) (hfit_cons rfl (bfit_g (by simp only [rens_append, lc_rens, rens, dv_ren, gmap])) (hfit_cons rfl (bfit_g (by simp only [rens, dv_ren, gmap])) (hfit_cons rfl (bfit_g (scs_rens ..)) (hfit_cons rfl (bfit_g (scs_rens ..)) (hfit_cons rfl (bfit_dbg) (hfit_cons rfl (bfit_dbg) (hfit_cons rfl (bfit_dbg) (hfit_cons rfl (bfit_g rfl) hfit_nil))))))))))))))))))))))))))))))))))))))))))))))))))))
    · exact uniq_nodup (by decide +kernel)
    · unfold tm5'
      simp only [go_sem, hfit, lc_fit, scs_fit, fit, ren, gmap, lw_plain, true_or, or_true, rens]
  · simp only [puts, w1, w2, w3, w4, w5, w6, w7, wrB_rob, wrB_ro, wrB_none, wrB_E4, Bool.false_eq_true, if_false, if_true]
    simp only [go_sem, A4, renB, rens, ren, gmap]
    refine ⟨_, _, _, rfl, (fun e => by cases e), rfl, ?_⟩
    clear r1 r2 r3 r4 r5 r6
    have f1 : ((s : Int) == 0) = false := by rw [beq_eq_false_iff_ne]; omega
    have f2 : ((0 : Int) < (s : Int)) = True := eq_true (by omega)
    have hw : IntKind.i64.wrap ((s : Int) + 1) = ((s + 1 : Nat) : Int) := by rw [wrap_i64 (by omega) (by omega)]; omega
    refine run_exit rfl ?_
    refine run_driveS 80 ?_
    simp only [go_sem, v4_30, eq_int, decide_true, f1, f2]
    refine run_cond_f (by rfl) ?_
    refine run_driveS 80 ?_
    simp only [go_sem, v4_33, v4_34, v4_35, hw]
    refine run_rename [0, 1, 2, 3, 4, 5, 6, 7, 8, 9, 10, 11, 12, 13, 14, 15, 16, 17, 18, 19, 20, 21, 22, 23, 24, 25, 26, 27, 28, 29, 30, 31, 32, 33, 34, 35, 36, 37, 38, 39, 40, 41, 42, 43, 44, 45, 46, 47, 48, 49, 50, 51, 56] rfl (by simp) ?_ ?_ ?_ next
    · unfold hp5
      exact hfit_cons rfl (bfit_ivb) (hfit_cons rfl (bfit_ivb) (hfit_cons_none (hfit_cons_none (hfit_cons rfl (bfit_ivb) (hfit_cons rfl (bfit_ivb) (hfit_cons rfl (bfit_ivb) (hfit_cons rfl (hcas _ rfl rfl rfl rfl rfl rfl rfl) (hfit_cons rfl (bfit_sm) (hfit_cons rfl (bfit_sm) (hfit_cons rfl (bfit_same (ers_rens ..)) (hfit_cons rfl (bfit_same (ers_rens ..)) (hfit_cons rfl (bfit_g (by simp only [rens_append, lc_rens, rens, ren, gmap])) (hfit_cons_none (hfit_cons_none (hfit_cons_none (hfit_cons_none (hfit_cons_none (hfit_cons_none (hfit_cons_none (hfit_cons_none (hfit_cons rfl (bfit_g (by simp only [rens, ren, gmap])) (hfit_cons_none (hfit_cons rfl (bfit_same (wts_ren _ _ _ _ _ _ _ _ _ _ _ _ (fun t ht => p5_fix (fun j hj => gmap_pre 52 [56] (by decide +kernel) hj) (by omega)) (fun t ht => q5_fix (fun j hj => gmap_pre 52 [56] (by decide +kernel) hj) (by omega)))) (hfit_cons rfl (DE_fit) (hfit_cons rfl (DE_fit) (hfit_cons rfl (DE_fit) (hfit_cons rfl (DE_fit) (hfit_cons rfl (DE_fit) (hfit_cons rfl (DE_fit) (hfit_cons rfl (DE_fit) (hfit_cons rfl (DE_fit) (hfit_cons rfl (DE_fit) (hfit_cons rfl (DE_fit) (hfit_cons rfl (DE_fit) (hfit_cons rfl (DE_fit) (hfit_cons rfl (DE_fit) (hfit_cons rfl (DE_fit) (hfit_cons rfl (DE_fit) (hfit_cons rfl (DE_fit) (hfit_cons rfl (DE_fit) (hfit_cons rfl (DE_fit) (hfit_cons rfl (DE_fit) (hfit_cons rfl (DE_fit) (hfit_cons rfl (bfit_g (by simp only [rens_append, lc_rens, rens, ren, gmap])) (hfit_cons rfl (bfit_g (by simp only [rens_append, lc_rens, rens, dv_ren, gmap])) (hfit_cons rfl (bfit_g (by simp only [rens, dv_ren, gmap])) (hfit_cons rfl (bfit_g (scs_rens ..)) (hfit_cons rfl (bfit_g (scs_rens ..)) (hfit_cons rfl (bfit_dbg) (hfit_cons rfl (bfit_dbg) (hfit_cons rfl (bfit_dbg) (hfit_cons rfl (bfit_g rfl) hfit_nil))))))))))))))))))))))))))))))))))))))))))))))))))))
    · exact uniq_nodup (by decide +kernel)
    · unfold tm5'
      simp only [go_sem, hfit, lc_fit, scs_fit, fit, ren, gmap, lw_plain, true_or, or_true, rens]
end
end
section
attribute [local go_sem ↓] lc_len lc_take lc_drop lc_known lc_one lc_rens lc_cells lw_known lw_agg lw_asG scs_known scs_one scs_len
attribute [local go_sem] lt_nat lt_natl lt_lnat lt_ll bool_tf bool_ft ivl_known ivl_one'
attribute [local go_sem ↓] ecs_len ecs_take ecs_drop ecs_known ecs_one ecs_rens ecs_fit ecs_cells ew_known ew_agg ew_asG ecs_kind ecs_k ecs_l ers_known ers_one ers_len ers_rens ers_fit
attribute [local go_sem ↓] ecs_take_add ecs_drop_add lc_take_add lc_drop_add lenO_de lenO_dv de_known dv_known de_one dv_one de_ren dv_ren
attribute [local go_sem ↓] lc_len lc_take lc_drop lc_known lc_one lc_rens lc_cells lw_known lw_agg lw_asG scs_known scs_one scs_len
attribute [local go_sem] lt_nat lt_natl lt_lnat lt_ll bool_tf bool_ft
attribute [local go_sem ↓] ecs_len ecs_take ecs_drop ecs_known ecs_one ecs_rens ecs_fit ecs_cells ew_known ew_agg ew_asG ecs_kind ecs_k ecs_l ers_known ers_one ers_len ers_rens ers_fit
attribute [local go_sem ↓] ivl_known ivl_one lc_take_add lc_drop_add ecs_take_add ecs_drop_add lenO_de lenO_dv de_known dv_known de_one dv_one de_ren dv_ren
attribute [local go_sem ↓] trs_len trs_known
set_option maxRecDepth 100000
set_option maxHeartbeats 2000000
attribute [local go_sem] yld_known
theorem cas_8 (Q P : Nat) (g h a b l r : V) (ea eb : Nat) (s given lab n : V) : ((cas Q P g h a b l r ea eb s given lab n).drop 8).take 1 = [g] := rfl
section
variable (us g h l r : Nat → Nat) (N : Nat) (c : Cap) (Q' P ea eb' nG mG nH mH nA mA nB mB nL mL nR mR nU mU : Nat) (zG zH zA zB zL zR zU : Bool) (sc lab : V) (N' : Int)
theorem stop_loop (hG : G 0 = tbl) (hN : N ≤ 10) (hus : ∀ j, us j < 115792089237316195423570985008687907853269984665640564039457584007913129639936) (hz : ∀ j, j < N → us j % ell ≠ 0) (hg : ∀ j, g j < 115792089237316195423570985008687907853269984665640564039457584007913129639936) (hh : ∀ j, h j < 115792089237316195423570985008687907853269984665640564039457584007913129639936) (hl : ∀ j, l j < 115792089237316195423570985008687907853269984665640564039457584007913129639936) (hr : ∀ j, r j < 115792089237316195423570985008687907853269984665640564039457584007913129639936) (hP : P < 115792089237316195423570985008687907853269984665640564039457584007913129639936) (hQ' : Q' < 115792089237316195423570985008687907853269984665640564039457584007913129639936) (hcas : ∀ f : Nat → Nat, f 0 = 0 → f 1 = 1 → f 2 = 2 → f 3 = 3 → f 4 = 4 → f 5 = 5 → f 6 = 6 → bfit f (some ⟨.rw, cas Q' P (ivl 0 nG mG zG) (ivl 1 nH mH zH) (ivl 2 nA mA zA) (ivl 3 nB mB zB) (ivl 4 nL mL zL) (ivl 5 nR mR zR) ea eb' sc (ivl 6 nU mU zU) lab (.int .i64 N')⟩) (some ⟨.rw, cas Q' P (ivl 0 nG mG zG) (ivl 1 nH mH zH) (ivl 2 nA mA zA) (ivl 3 nB mB zB) (ivl 4 nL mL zL) (ivl 5 nR mR zR) ea eb' sc (ivl 6 nU mU zU) lab (.int .i64 N')⟩)) (oG : Ok nG mG zG) {Q : V → Heap → Prop} {K : List TI} (hR : ∀ s, Run Tryd.prog G 4 7 Q (K, ⟨tm5', hp5 us g h l r N c Q' P ea eb' nG mG nH mH nA mA nB mB nL mL nR mR nU mU zG zH zA zB zL zR zU sc lab N' s⟩)) : ∀ m s, s + m = N + 2 → Run Tryd.prog G 4 7 Q (.l v4_36 :: .b 0 :: K, ⟨tm5', hp5 us g h l r N c Q' P ea eb' nG mG nH mH nA mA nB mB nL mL nR mR nU mU zG zH zA zB zL zR zU sc lab N' s⟩)
  | 0, s, e => by
    have h1 : ((s : Int) ≤ ((N + 1 : Nat) : Int)) = False := eq_false (by omega)
    have hR := hR s
    unfold tm5' hp5 at hR ⊢
    refine run_loop_eq v4_36.eq_1 ?_
    refine run_driveS 80 ?_
    simp only [go_sem, v4_9, h1]
    refine run_exit rfl ?_
    refine run_tmps ?_ hR
    simp only [go_sem, forg, true_or, or_true]
  | m + 1, s, e => by
    have ih := stop_loop hG hN hus hz hg hh hl hr hP hQ' hcas oG hR m (s + 1) (by omega)
    have h1 : ((s : Int) ≤ ((N + 1 : Nat) : Int)) = True := eq_true (by omega)
    have hst := stop_step us g h l r N c Q' P ea eb' nG mG nH mH nA mA nB mB nL mL nR mR nU mU zG zH zA zB zL zR zU sc lab N' hG hN hus hz hg hh hl hr hP hQ' hcas s (by omega) ih
    unfold hp5 at hst
    by_cases c2 : s < 2
    · have h2 : ((s : Int) < 2) = True := eq_true (by omega)
      unfold tm5' hp5
      refine run_loop_eq v4_36.eq_1 ?_
      refine run_driveS 80 ?_
      simp only [go_sem, v4_9, v4_32, v4_10, v4_11, v4_12, v4_29, h1, h2]
      refine run_tmps ?_ hst
      simp only [go_sem, forg, true_or, or_true]
    · have h2 : ((s : Int) < 2) = False := eq_false (by omega)
      have hlen := lenO_ivl' (i := 0) oG
      by_cases c3 : nG ≤ 64
      · have h3 : ((nG : Int) ≤ 64) = True := eq_true (by omega)
        unfold tm5' hp5
        refine run_loop_eq v4_36.eq_1 ?_
        refine run_driveS 80 ?_
        simp only [go_sem, v4_9, v4_32, v4_10, v4_11, v4_12, v4_29, h1, h2, h3, cas_8, hlen]
        refine run_tmps ?_ hst
        simp only [go_sem, forg, true_or, or_true]
      · have h3 : ((nG : Int) ≤ 64) = False := eq_false (by omega)
        have hR := hR s
        unfold tm5' hp5 at hR ⊢
        refine run_loop_eq v4_36.eq_1 ?_
        refine run_driveS 80 ?_
        simp only [go_sem, v4_9, h1, h2, h3, cas_8, hlen]
        refine run_exit rfl ?_
        refine run_tmps ?_ hR
        simp only [go_sem, forg, true_or, or_true]
end
end
section
attribute [local go_sem ↓] lc_len lc_take lc_drop lc_known lc_one lc_rens lc_cells lw_known lw_agg lw_asG scs_known scs_one scs_len
attribute [local go_sem] lt_nat lt_natl lt_lnat lt_ll bool_tf bool_ft ivl_known ivl_one'
attribute [local go_sem ↓] ecs_len ecs_take ecs_drop ecs_known ecs_one ecs_rens ecs_fit ecs_cells ew_known ew_agg ew_asG ecs_kind ecs_k ecs_l ers_known ers_one ers_len ers_rens ers_fit
attribute [local go_sem ↓] ecs_take_add ecs_drop_add lc_take_add lc_drop_add lenO_de lenO_dv de_known dv_known de_one dv_one de_ren dv_ren
attribute [local go_sem ↓] lc_len lc_take lc_drop lc_known lc_one lc_rens lc_cells lw_known lw_agg lw_asG scs_known scs_one scs_len
attribute [local go_sem] lt_nat lt_natl lt_lnat lt_ll bool_tf bool_ft
attribute [local go_sem ↓] ecs_len ecs_take ecs_drop ecs_known ecs_one ecs_rens ecs_fit ecs_cells ew_known ew_agg ew_asG ecs_kind ecs_k ecs_l ers_known ers_one ers_len ers_rens ers_fit
attribute [local go_sem ↓] ivl_known ivl_one lc_take_add lc_drop_add ecs_take_add ecs_drop_add lenO_de lenO_dv de_known dv_known de_one dv_one de_ren dv_ren
attribute [local go_sem ↓] trs_len trs_known
set_option maxRecDepth 100000
set_option maxHeartbeats 2000000
attribute [local go_sem] yld_known
theorem cas_9 (Q P : Nat) (g h a b l r : V) (ea eb : Nat) (s given lab n : V) : ((cas Q P g h a b l r ea eb s given lab n).drop 9).take 1 = [h] := rfl
theorem bfit_ro {f : Nat → Nat} {k : Kind} {c c' : List V} (h : rens f c = c') (hk : k.m = true := by rfl) : bfit f (some ⟨.ro, c⟩) (some ⟨k, c'⟩) := ⟨.inr ⟨rfl, hk⟩, by rw [← h]; exact fit_rens f c⟩
theorem wts_rens (us Lf Rf : Nat → Nat) (N P Q' : Nat) (p q : Nat → Nat) (f : Nat → Nat) (n : Nat) : rens f (wts us Lf Rf N P Q' p q n) = wts us Lf Rf N P Q' (fun j => f (p j)) (fun j => f (q j)) n := wts_ren _ _ _ _ _ _ _ _ _ _ f n (fun _ _ => rfl) (fun _ _ => rfl)
theorem wts_pos (us Lf Rf : Nat → Nat) (N P Q' : Nat) (p q p' q' : Nat → Nat) (n : Nat) (hp : ∀ t, t < n → p t = p' t) (hq : ∀ t, t < n → q t = q' t) : wts us Lf Rf N P Q' p q n = wts us Lf Rf N P Q' p' q' n := by
  unfold wts
  refine row_congr fun t ht => ?_
  unfold wst
  rw [hp t ht, hq t ht]
theorem gm_pq {t : Nat} (ht : t < 11) : gmap [22, 10, 11, 16, 17] 23 (pgs t) = p5 t ∧ gmap [22, 10, 11, 16, 17] 23 (phs t) = q5 t := by
  match t, ht with
  | 0, _ | 1, _ | 2, _ | 3, _ | 4, _ | 5, _ | 6, _ | 7, _ | 8, _ | 9, _ | 10, _ => exact ⟨rfl, rfl⟩
theorem law_rounds (hG0 : G 0 = tbl) (g h l r us : Nat → Nat) (hg : ∀ j, g j < 115792089237316195423570985008687907853269984665640564039457584007913129639936) (hh : ∀ j, h j < 115792089237316195423570985008687907853269984665640564039457584007913129639936) (hl : ∀ j, l j < 115792089237316195423570985008687907853269984665640564039457584007913129639936) (hr : ∀ j, r j < 115792089237316195423570985008687907853269984665640564039457584007913129639936) (hus : ∀ j, us j < 115792089237316195423570985008687907853269984665640564039457584007913129639936) (Q' P ea eb' nG mG nH mH nA mA nB mB nL mL nR mR nU mU : Nat) (zG zH zA zB zL zR zU : Bool) (hG : Ok nG mG zG) (hH : Ok nH mH zH) (hL : Ok nL mL zL) (hR : Ok nR mR zR) (hU : Ok nU mU zU) (hP : P < 115792089237316195423570985008687907853269984665640564039457584007913129639936) (hQ' : Q' < 115792089237316195423570985008687907853269984665640564039457584007913129639936) (hA : ea < 115792089237316195423570985008687907853269984665640564039457584007913129639936) (hB : eb' < 115792089237316195423570985008687907853269984665640564039457584007913129639936) (sc lab : V) (hsc : ∀ f, ren f sc = sc) (hlab : ∀ f, ren f lab = lab) (hsk : sc.known = true) (hlk : lab.known = true) (N' : Int) :
    VCall Tryd.prog G 4 [.agg (cas Q' P (ivl 0 nG mG zG) (ivl 1 nH mH zH) (ivl 2 nA mA zA) (ivl 3 nB mB zB) (ivl 4 nL mL zL) (ivl 5 nR mR zR) ea eb' sc (ivl 6 nU mU zU) lab (.int .i64 N'))] [ivb g nG zG, ivb h nH zH, none, none, ivb l nL zL, ivb r nR zR, ivb us nU zU]
      fun v k => v = .bool true ∧ k = [ivb g nG zG, ivb h nH zH, none, none, ivb l nL zL, ivb r nR zR, ivb us nU zU] := by
  have hs := fun Q => statement (G := G) g h hg hh Q' P ea eb' nG mG nH mH nA mA nB mB nL mL nR mR nU mU zG zH zA zB zL zR zU hG hH hP hQ' sc lab hsc hlab hsk hlk N' Q
  have ha := fun Q => argument (G := G) l r hl hr Q' P ea eb' nG mG nH mH nA mA nB mB nL mL nR mR nU mU zG zH zA zB zL zR zU hL hR hA hB sc lab hsk hlk N' Q
  have b1 : min nG 2100 ≤ 2100 := Nat.min_le_right ..
  have b2 : min nH 2100 ≤ 2100 := Nat.min_le_right ..
  have b3 : min nL 2100 ≤ 2100 := Nat.min_le_right ..
  have b4 : min nR 2100 ≤ 2100 := Nat.min_le_right ..
  have b5 : min nU 2100 ≤ 2100 := Nat.min_le_right ..
  generalize hn1 : min nG 2100 = n1 at *
  generalize hn2 : min nH 2100 = n2 at *
  generalize min nL 2100 = n3 at *
  generalize min nR 2100 = n4 at *
  generalize hn5 : min nU 2100 = n5 at *
  refine vcall_body Tryd.func4 nm4 code4 nt4 ?_
  unfold cas at *
  refine run_driveS 80 ?_
  simp only [go_sem, v4, v4_0, v4_1, hsk, hlk]
  refine run_call' rfl ?_
  simp only [go_sem, calV]
  refine vcall_at (hs (fun v k => v = .tup [stL P Q' (.sl 7 0 n1 (.exact (n1 + 1))) (.sl 8 0 n2 (.exact (n2 + 1))), stE (P % ell) (Q' % ell) (de 9 n1) (de 10 n2)] ∧ k = [ivb g nG zG, ivb h nH zH, none, none, none, none, none, some ⟨.ro, scs n1 g ++ lc 77⟩, some ⟨.ro, scs n2 h ++ lc 77⟩, eb (fun j => g j % ell) n1, eb (fun j => h j % ell) n2]) ⟨rfl, rfl⟩) [0, 1, 2, 3, 4, 5, 6] (by simp) ?_ ?_ ?_ ?_
  · exact hfit_cons rfl bfit_ivb (hfit_cons rfl bfit_ivb (hfit_cons_none (hfit_cons_none (hfit_cons_none (hfit_cons_none (hfit_cons_none hfit_nil))))))
  · simp [uniq, wrB_ivb, wrB]
  · simp only [rens, ren, rens_append, lc_rens, ivl_ren, gmap, hsc, hlab]
  rintro v k ⟨rfl, rfl⟩
  rw [puts_ro (by simp [wrB_ivb, wrB_none]) rfl (by simp)]
  simp only [go_sem, ren, rens, gmap, renB, Option.map_some, Option.map_none, scs_rens, lc_rens, rens_append, ers_rens, ecs_rens, de_ren, dv_ren, stL_ren, arL_ren, stE_ren, arE_ren, ivl_ren, stL, stE, arL, arE, eb_map]
  refine run_driveS 80 ?_
  simp only [go_sem, v4_2, List.append_assoc, hsk, hlk]
  refine run_call' rfl ?_
  simp only [go_sem, calV]
  refine vcall_at (ha (fun v k => v = .tup [arL (.sl 7 0 n3 (.exact (n3 + 1))) (.sl 8 0 n4 (.exact (n4 + 1))) ea eb', arE (de 9 n3) (de 10 n4) (ea % ell) (eb' % ell)] ∧ k = [none, none, none, none, ivb l nL zL, ivb r nR zR, none, some ⟨.ro, scs n3 l ++ lc 77⟩, some ⟨.ro, scs n4 r ++ lc 77⟩, eb (fun j => l j % ell) n3, eb (fun j => r j % ell) n4]) ⟨rfl, rfl⟩) [0, 1, 2, 3, 4, 5, 6] (by simp) ?_ ?_ ?_ ?_
  · exact hfit_cons_none (hfit_cons_none (hfit_cons_none (hfit_cons_none (hfit_cons rfl bfit_ivb (hfit_cons rfl bfit_ivb (hfit_cons_none hfit_nil))))))
  · simp [uniq, wrB_ivb, wrB_none]
  · simp only [rens, ren, rens_append, lc_rens, ivl_ren, gmap, hsc, hlab]
  rintro v k ⟨rfl, rfl⟩
  rw [puts_ro (by simp [wrB_ivb, wrB_none]) rfl (by simp)]
  simp only [go_sem, ren, rens, gmap, renB, Option.map_some, Option.map_none, scs_rens, lc_rens, rens_append, ers_rens, ecs_rens, de_ren, dv_ren, stL_ren, arL_ren, stE_ren, arE_ren, ivl_ren, stL, stE, arL, arE, eb_map]
  refine run_driveS 80 ?_
  simp only [go_sem, List.append_assoc, hsk, hlk]
  have hgen := fun Q => rounds_gen (G := G) P Q' ea eb' n1 n2 n3 n4 n5 (.exact (n1 + 1)) (.exact (n2 + 1)) (.exact (n3 + 1)) (.exact (n4 + 1)) (.exact (n5 + 1)) g h l r us (lc 77) (lc 77) (lc 77) (lc 77) (lc 78) (lc_rens _) (lc_rens _) (lc_rens _) (lc_rens _) (lc_rens _) (by omega) (by omega) (by omega) (by omega) (by omega) Q
  refine run_driveS 80 ?_
  simp only [go_sem, v4_3, hsk, hlk]
  refine run_call' rfl ?_
  simp only [go_sem, calV]
  refine scalars_at us nU mU zU hU 6 rfl n5 hn5.symm ?_
  refine run_driveS 80 ?_
  simp only [go_sem, hsk, hlk]
  refine run_drw (by kernel_rfl) ?_
  refine drun_drive 40 (p := (_, _)) ?_
  simp only [go_sem, v4_4, hsk, hlk, restore, Option.join_some, maskH, List.mapIdx_cons, List.mapIdx_nil, List.contains_cons, List.contains_nil, Bool.or_false, Bool.or_true, Bool.false_or, Bool.true_or, Nat.reduceBEq]
  refine drun_call' ?_
  simp only [go_sem, calV, restore, Option.join_some, maskH, List.mapIdx_cons, List.mapIdx_nil, List.contains_cons, List.contains_nil, Bool.or_false, Bool.or_true, Bool.false_or, Bool.true_or, Nat.reduceBEq]
  refine doc_scalars_at us hus nU mU zU hU 6 rfl n5 hn5.symm ?_
  refine drun_drive 40 (p := (_, _)) ?_
  simp only [go_sem, hsk, hlk, restore, Option.join_some, maskH, List.mapIdx_cons, List.mapIdx_nil, List.contains_cons, List.contains_nil, Bool.or_false, Bool.or_true, Bool.false_or, Bool.true_or, Nat.reduceBEq]
  by_cases hfit : (∃ k, Fit n1 n2 n3 n4 n5 k) ∧ ∀ j, j < n5 → us j % ell ≠ 0
  · obtain ⟨⟨k, f1⟩, f2⟩ := hfit
    obtain ⟨rfl, hk, rfl, rfl, rfl, rfl⟩ := f1
    have hq := Nat.two_pow_pos n5
    refine drun_call' ?_
    simp only [go_sem, calV, restore, Option.join_some, maskH, List.mapIdx_cons, List.mapIdx_nil, List.contains_cons, List.contains_nil, Bool.or_false, Bool.or_true, Bool.false_or, Bool.true_or, Nat.reduceBEq]
    refine vcall_at (rounds_all (fun j => us j % ell) (fun j => g j % ell) (fun j => h j % ell) (fun j => l j % ell) (fun j => r j % ell) n5 (P % ell) (Q' % ell) (ea % ell) (eb' % ell) hk (fun j => mod_lt' _) f2 (fun j => mod_lt _) (fun j => mod_lt _) (fun j => mod_lt _) (fun j => mod_lt _) (mod_lt' _) (fun v k => ∃ c, v = .sl 5 0 (n5 + 1) c ∧ k = _) (fun c => ⟨c, rfl, rfl⟩)) [22, 10, 11, 16, 17] (by simp) ?_ ?_ ?_ ?_
    · rw [eb_pos hq, eb_pos hq]
      exact hfit_cons rfl bfit_db (hfit_cons rfl (bfit_same (ers_rens ..)) (hfit_cons rfl (bfit_same (ers_rens ..)) (hfit_cons rfl bfit_eb' (hfit_cons rfl bfit_eb' hfit_nil))))
    · exact uniq_nodup (by decide)
    · simp only [ren, rens, gmap, rens_append, ers_rens, ecs_rens, lc_rens, de_ren, dv_ren, stL, arL, stE, arE, de_pos hq]
    rintro v k ⟨c, rfl, rfl⟩
    rw [puts_ro (by simp [wrB_rob, wrB_eb, wrB_ro]) rfl (by simp)]
    simp only [List.drop_succ_cons, List.drop_zero, List.length_cons, List.length_nil, List.map_cons, List.map_nil, DE_map, Option.map_some, renB, wts_rens, List.cons_append, List.nil_append, Nat.reduceAdd, ren, gmap]
    rw [wts_pos _ _ _ _ _ _ (fun j => gmap [22, 10, 11, 16, 17] 23 (pgs j)) (fun j => gmap [22, 10, 11, 16, 17] 23 (phs j)) p5 q5 (n5 + 1) (fun t ht => (gm_pq (by omega)).1) (fun t ht => (gm_pq (by omega)).2)]
    refine drun_drive 40 (p := (_, _)) ?_
    simp only [go_sem, hsk, hlk, restore, Option.join_some, maskH, List.mapIdx_cons, List.mapIdx_nil, List.contains_cons, List.contains_nil, Bool.or_false, Bool.or_true, Bool.false_or, Bool.true_or, Nat.reduceBEq]
    refine drun_end ?_
    refine run_driveS 80 ?_
    simp only [go_sem, v4_5, hsk, hlk]
    refine run_call' rfl ?_
    simp only [go_sem, calV]
    refine vcall_at (hgen (fun v k => v = .fn (.func 60) [] [.ptr 5 0, .ptr 6 0, .ptr 7 0] ∧ k = _) ⟨rfl, rfl⟩) [8, 9, 14, 15, 20] (by simp) ?_ ?_ ?_ ?_
    · exact hfit_cons rfl bfit_sm (hfit_cons rfl bfit_sm (hfit_cons rfl bfit_sm (hfit_cons rfl bfit_sm (hfit_cons rfl bfit_sm hfit_nil))))
    · exact uniq_nodup (by decide)
    · simp only [ren, rens, gmap, rens_append, ers_rens, ecs_rens, lc_rens, de_ren, dv_ren, stL, arL, stE, arE]
    rintro v k ⟨rfl, rfl⟩
    rw [puts_ro (by simp [wrB_ro]) rfl (by simp)]
    simp only [List.drop_succ_cons, List.drop_zero, List.length_cons, List.length_nil, List.map_cons, List.map_nil, Option.map_some, renB, db_map, List.cons_append, List.nil_append, Nat.reduceAdd, ren, rens, gmap, rens_append, ers_rens, ecs_rens, lc_rens, de_ren, dv_ren, stL, arL, stE, arE, scs_rens]
    refine run_driveS 80 ?_
    simp only [go_sem, v4_6, implies_true]
    refine run_cond_f (by rfl) ?_
    refine run_driveS 80 ?_
    simp only [go_sem, v4_8, v4_37]
    simp only [dv_pos hq, eb_pos hq, db_pos hq]
    have hcas : ∀ f : Nat → Nat, f 0 = 0 → f 1 = 1 → f 2 = 2 → f 3 = 3 → f 4 = 4 → f 5 = 5 → f 6 = 6 → bfit f (some ⟨.rw, cas Q' P (ivl 0 nG mG zG) (ivl 1 nH mH zH) (ivl 2 nA mA zA) (ivl 3 nB mB zB) (ivl 4 nL mL zL) (ivl 5 nR mR zR) ea eb' sc (ivl 6 nU mU zU) lab (.int .i64 N')⟩) (some ⟨.rw, cas Q' P (ivl 0 nG mG zG) (ivl 1 nH mH zH) (ivl 2 nA mA zA) (ivl 3 nB mB zB) (ivl 4 nL mL zL) (ivl 5 nR mR zR) ea eb' sc (ivl 6 nU mU zU) lab (.int .i64 N')⟩) := fun f h0 h1 h2 h3 h4 h5 h6 => bfit_g (by unfold cas; simp only [rens_append, lc_rens, rens, ren, ivl_ren, h0, h1, h2, h3, h4, h5, h6, hsc, hlab])
    refine run_rename [0, 1, 2, 3, 4, 5, 6, 7, 8, 9, 10, 11, 12, 13, 14, 15, 16, 17, 18, 19, 20, 21, 22, 23, 24, 25, 26, 27, 28, 29, 30, 31, 32, 33, 34, 35, 36, 37, 38, 39, 40, 41, 42, 43, 44, 45, 46, 47, 48, 49, 50, 51, 52] rfl (by simp) ?_ ?_ ?_ (stop_loop us g h l r n5 c Q' P ea eb' nG mG nH mH nA mA nB mB nL mL nR mR nU mU zG zH zA zB zL zR zU sc lab N' hG0 hk hus f2 hg hh hl hr hP hQ' hcas hG (fun s => ?_) (n5 + 2) 0 (by omega))
    · unfold hp5
      exact hfit_cons rfl (bfit_ivb) (hfit_cons rfl (bfit_ivb) (hfit_cons_none (hfit_cons_none (hfit_cons rfl (bfit_ivb) (hfit_cons rfl (bfit_ivb) (hfit_cons rfl (bfit_ivb) (hfit_cons rfl (hcas _ rfl rfl rfl rfl rfl rfl rfl) (hfit_cons rfl (bfit_sm) (hfit_cons rfl (bfit_sm) (hfit_cons rfl (bfit_same (ers_rens ..)) (hfit_cons rfl (bfit_same (ers_rens ..)) (hfit_cons rfl (bfit_g (by simp only [rens_append, lc_rens, rens, ren, gmap])) (hfit_cons_none (hfit_cons_none (hfit_cons_none (hfit_cons_none (hfit_cons_none (hfit_cons_none (hfit_cons_none (hfit_cons_none (hfit_cons rfl (bfit_g (by simp only [rens, ren, gmap])) (hfit_cons_none (hfit_cons rfl (bfit_same (wts_ren _ _ _ _ _ _ _ _ _ _ _ _ (fun t ht => p5_fix (fun j hj => gmap_pre 52 [52] (by decide +kernel) hj) (by omega)) (fun t ht => q5_fix (fun j hj => gmap_pre 52 [52] (by decide +kernel) hj) (by omega)))) (hfit_cons rfl (DE_fit) (hfit_cons rfl (DE_fit) (hfit_cons rfl (DE_fit) (hfit_cons rfl (DE_fit) (hfit_cons rfl (DE_fit) (hfit_cons rfl (DE_fit) (hfit_cons rfl (DE_fit) (hfit_cons rfl (DE_fit) (hfit_cons rfl (DE_fit) (hfit_cons rfl (DE_fit) (hfit_cons rfl (DE_fit) (hfit_cons rfl (DE_fit) (hfit_cons rfl (DE_fit) (hfit_cons rfl (DE_fit) (hfit_cons rfl (DE_fit) (hfit_cons rfl (DE_fit) (hfit_cons rfl (DE_fit) (hfit_cons rfl (DE_fit) (hfit_cons rfl (DE_fit) (hfit_cons rfl (DE_fit) (hfit_cons rfl (bfit_g (by simp only [rens_append, lc_rens, rens, ren, gmap])) (hfit_cons rfl (bfit_g (by simp only [rens_append, lc_rens, rens, dv_ren, gmap])) (hfit_cons rfl (bfit_g (by simp only [rens, dv_ren, gmap])) (hfit_cons rfl (bfit_g (scs_rens ..)) (hfit_cons rfl (bfit_g (scs_rens ..)) (hfit_cons rfl (bfit_dbg) (hfit_cons rfl (bfit_dbg) (hfit_cons rfl (bfit_dbg) (hfit_cons rfl (bfit_g rfl) hfit_nil))))))))))))))))))))))))))))))))))))))))))))))))))))
    · exact uniq_nodup (by decide +kernel)
    · unfold tm5'
      simp only [go_sem, hfit, lc_fit, scs_fit, fit, ren, gmap, lw_plain, true_or, or_true, rens]
    unfold tm5' hp5
    refine run_driveS 80 ?_
    simp only [go_sem, v4_38, cas_8, cas_9, stL_take3, stL_take4]
    refine run_call' rfl ?_
    simp only [go_sem, calV]
    refine vcall_at (lines_stay g hg nG mG (2 ^ n5) zG hG hn1.symm (fun v k => v = .bool true ∧ k = [some ⟨.ro, scs (2 ^ n5) g ++ lc 77⟩, ivb g nG zG]) ⟨rfl, rfl⟩) [8, 0] (by simp) ?_ ?_ ?_ ?_
    · exact hfit_cons rfl bfit_sm (hfit_cons rfl bfit_ivb hfit_nil)
    · exact uniq_nodup (by decide)
    · simp only [ren, rens, gmap, ivl_ren]
    rintro v k ⟨rfl, rfl⟩
    rw [puts_ro (by simp [wrB_ro, wrB_ivb]) rfl (by simp)]
    simp only [List.drop_succ_cons, List.drop_zero, List.length_cons, List.length_nil, List.map_nil, List.append_nil, Nat.reduceAdd, ren]
    refine run_driveS 80 ?_
    simp only [go_sem, cas_8, cas_9, stL_take3, stL_take4]
    refine run_call' rfl ?_
    simp only [go_sem, calV]
    refine vcall_at (lines_stay h hh nH mH (2 ^ n5) zH hH hn2.symm (fun v k => v = .bool true ∧ k = [some ⟨.ro, scs (2 ^ n5) h ++ lc 77⟩, ivb h nH zH]) ⟨rfl, rfl⟩) [9, 1] (by simp) ?_ ?_ ?_ ?_
    · exact hfit_cons rfl bfit_sm (hfit_cons rfl bfit_ivb hfit_nil)
    · exact uniq_nodup (by decide)
    · simp only [ren, rens, gmap, ivl_ren]
    rintro v k ⟨rfl, rfl⟩
    rw [puts_ro (by simp [wrB_ro, wrB_ivb]) rfl (by simp)]
    simp only [List.drop_succ_cons, List.drop_zero, List.length_cons, List.length_nil, List.map_nil, List.append_nil, Nat.reduceAdd, ren]
    refine run_driveS 80 ?_
    simp only [go_sem]
    refine run_ret_drop Tryd.func4 res4 [0, 1, 2, 3, 4, 5, 6] (.bool true) [ivb g nG zG, ivb h nH zH, none, none, ivb l nL zL, ivb r nR zR, ivb us nU zU] rfl (by simp) ?_ ?_ ?_ ⟨rfl, rfl⟩
    · exact hfit_cons rfl bfit_ivb (hfit_cons rfl bfit_ivb (hfit_cons_none (hfit_cons_none (hfit_cons rfl bfit_ivb (hfit_cons rfl bfit_ivb (hfit_cons rfl bfit_ivb hfit_nil))))))
    · simp [uniq, wrB_ivb, wrB_none]
    · simp only [go_sem, rr4, ren, gmap]
  · have hbad : (∀ k, ¬ Fit n1 n2 n3 n4 n5 k) ∨ ∃ j, j < n5 ∧ us j % ell = 0 := by
      by_cases e : ∃ k, Fit n1 n2 n3 n4 n5 k
      · refine .inr (Classical.byContradiction fun hc => hfit ⟨e, fun j hj hz => hc ⟨j, hj, hz⟩⟩)
      · exact .inl fun k hk => e ⟨k, hk⟩
    refine drun_call' ?_
    simp only [go_sem, calV, restore, Option.join_some, maskH, List.mapIdx_cons, List.mapIdx_nil, List.contains_cons, List.contains_nil, Bool.or_false, Bool.or_true, Bool.false_or, Bool.true_or, Nat.reduceBEq]
    refine vcall_at (rounds_none (P % ell) (Q' % ell) (ea % ell) (eb' % ell) n1 n2 n3 n4 n5 (fun j => us j % ell) (fun j => mod_lt' _) hbad (fun v k => v = .nils ∧ k = [rob (fun j => us j % ell) n5, none, none, none, none]) ⟨rfl, rfl⟩) [22, 10, 11, 16, 17] (by simp) ?_ ?_ ?_ ?_
    · exact hfit_cons rfl bfit_db (hfit_cons_none (hfit_cons_none (hfit_cons_none (hfit_cons_none hfit_nil))))
    · exact uniq_nodup (by decide)
    · simp only [ren, rens, gmap, rens_append, ers_rens, ecs_rens, lc_rens, de_ren, dv_ren, stL, arL, stE, arE]
    rintro v k ⟨rfl, rfl⟩
    rw [puts_ro (by simp [wrB_rob, wrB_none]) rfl (by simp)]
    simp only [List.drop_succ_cons, List.drop_zero, List.length_cons, List.length_nil, List.map_nil, List.append_nil, Nat.reduceAdd, ren]
    refine drun_drive 40 (p := (_, _)) ?_
    simp only [go_sem, hsk, hlk, restore, Option.join_some, maskH, List.mapIdx_cons, List.mapIdx_nil, List.contains_cons, List.contains_nil, Bool.or_false, Bool.or_true, Bool.false_or, Bool.true_or, Nat.reduceBEq]
    refine drun_end ?_
    refine run_driveS 80 ?_
    simp only [go_sem, v4_5, hsk, hlk]
    refine run_call' rfl ?_
    simp only [go_sem, calV]
    refine vcall_at (hgen (fun v k => v = .fn (.func 60) [] [.ptr 5 0, .ptr 6 0, .ptr 7 0] ∧ k = _) ⟨rfl, rfl⟩) [8, 9, 14, 15, 20] (by simp) ?_ ?_ ?_ ?_
    · exact hfit_cons rfl bfit_sm (hfit_cons rfl bfit_sm (hfit_cons rfl bfit_sm (hfit_cons rfl bfit_sm (hfit_cons rfl bfit_sm hfit_nil))))
    · exact uniq_nodup (by decide)
    · simp only [ren, rens, gmap, rens_append, ers_rens, ecs_rens, lc_rens, de_ren, dv_ren, stL, arL, stE, arE]
    rintro v k ⟨rfl, rfl⟩
    rw [puts_ro (by simp [wrB_ro]) rfl (by simp)]
    simp only [List.drop_succ_cons, List.drop_zero, List.length_cons, List.length_nil, List.map_cons, List.map_nil, Option.map_some, renB, db_map, List.cons_append, List.nil_append, Nat.reduceAdd, ren, rens, gmap, rens_append, ers_rens, ecs_rens, lc_rens, de_ren, dv_ren, stL, arL, stE, arE, scs_rens]
    refine run_driveS 80 ?_
    simp only [go_sem, v4_6, implies_true]
    refine run_cond_f (by rfl) ?_
    refine run_driveS 80 ?_
    simp only [go_sem, v4_8, v4_37]
    refine run_loop_eq v4_36.eq_1 ?_
    refine run_driveS 80 ?_
    simp only [go_sem, v4_9, v4_32, v4_10, v4_11, v4_12, v4_29]
    refine run_range rfl enters60 (fun R r1 r2 r3 r4 r5 r6 => ?_)
    simp only [go_sem]
    have hbd := rounds_bad (G := G) hG0 P Q' ea eb' n1 n2 n3 n4 n5 (by omega) (by omega) us hus hbad ⟨.loop R, List.replicate 129 .unk⟩ (fun f => ⟨.inl rfl, fit_unk _ _ rfl⟩) rfl (fun v k => v = .tup [] ∧ k = _) ⟨rfl, rfl⟩
    refine vcall_at hbd [23, 24, 25, 26, 27, 28, 29, 30, 34] (by simp) ?_ ?_ ?_ ?_
    · exact hfit_cons rfl (bfit_ro (by simp only [rens_append, lc_rens, rens, dv_ren, gmap])) (hfit_cons rfl (bfit_ro (by simp only [rens_append, lc_rens, rens, dv_ren, gmap])) (hfit_cons rfl (bfit_ro (by simp only [rens, dv_ren, gmap])) (hfit_cons_none (hfit_cons_none (hfit_cons_none (hfit_cons_none (hfit_cons rfl bfit_db (hfit_cons rfl ⟨.inl rfl, fit_unk _ _ rfl⟩ hfit_nil))))))))
    · exact uniq_nodup (by decide)
    · simp only [rens, ren, gmap]
    rintro v k ⟨rfl, rfl⟩
    have w4 : wrB (some ⟨.loop R, List.replicate 129 .unk⟩) = true := rfl
    simp only [puts, w4, wrB_rob, wrB_ro, wrB_none, Bool.false_eq_true, if_false, if_true]
    simp only [go_sem, renB, rens, ren, gmap]
    refine ⟨R, _, _, rfl, by rw [r1]; decide, by rw [r2]; rfl, ?_⟩
    clear r1 r2 r3 r4 r5 r6
    refine run_driveS 80 ?_
    simp only [go_sem, v4_30]
    refine run_cond_f (by rfl) ?_
    refine run_driveS 80 ?_
    simp only [go_sem, v4_33, v4_34, v4_35]
    refine run_loop_eq v4_36.eq_1 ?_
    refine run_driveS 80 ?_
    simp only [go_sem, v4_9]
    refine run_exit rfl ?_
    refine run_driveS 80 ?_
    simp only [go_sem, v4_38, cas_8, cas_9, stL_take3, stL_take4]
    refine run_call' rfl ?_
    simp only [go_sem, calV]
    refine vcall_at (lines_stay g hg nG mG n1 zG hG hn1.symm (fun v k => v = .bool true ∧ k = [some ⟨.ro, scs n1 g ++ lc 77⟩, ivb g nG zG]) ⟨rfl, rfl⟩) [8, 0] (by simp) ?_ ?_ ?_ ?_
    · exact hfit_cons rfl bfit_sm (hfit_cons rfl bfit_ivb hfit_nil)
    · exact uniq_nodup (by decide)
    · simp only [ren, rens, gmap, ivl_ren]
    rintro v k ⟨rfl, rfl⟩
    rw [puts_ro (by simp [wrB_ro, wrB_ivb]) rfl (by simp)]
    simp only [List.drop_succ_cons, List.drop_zero, List.length_cons, List.length_nil, List.map_nil, List.append_nil, Nat.reduceAdd, ren]
    refine run_driveS 80 ?_
    simp only [go_sem, cas_8, cas_9, stL_take3, stL_take4]
    refine run_call' rfl ?_
    simp only [go_sem, calV]
    refine vcall_at (lines_stay h hh nH mH n2 zH hH hn2.symm (fun v k => v = .bool true ∧ k = [some ⟨.ro, scs n2 h ++ lc 77⟩, ivb h nH zH]) ⟨rfl, rfl⟩) [9, 1] (by simp) ?_ ?_ ?_ ?_
    · exact hfit_cons rfl bfit_sm (hfit_cons rfl bfit_ivb hfit_nil)
    · exact uniq_nodup (by decide)
    · simp only [ren, rens, gmap, ivl_ren]
    rintro v k ⟨rfl, rfl⟩
    rw [puts_ro (by simp [wrB_ro, wrB_ivb]) rfl (by simp)]
    simp only [List.drop_succ_cons, List.drop_zero, List.length_cons, List.length_nil, List.map_nil, List.append_nil, Nat.reduceAdd, ren]
    refine run_driveS 80 ?_
    simp only [go_sem]
    refine run_ret_drop Tryd.func4 res4 [0, 1, 2, 3, 4, 5, 6] (.bool true) [ivb g nG zG, ivb h nH zH, none, none, ivb l nL zL, ivb r nR zR, ivb us nU zU] rfl (by simp) ?_ ?_ ?_ ⟨rfl, rfl⟩
    · exact hfit_cons rfl bfit_ivb (hfit_cons rfl bfit_ivb (hfit_cons_none (hfit_cons_none (hfit_cons rfl bfit_ivb (hfit_cons rfl bfit_ivb (hfit_cons rfl bfit_ivb hfit_nil))))))
    · simp [uniq, wrB_ivb, wrB_none]
    · simp only [go_sem, rr4, ren, gmap]
end
end Go.Vs.Tryd
namespace Go.Vs.Tryd
open Go.Proofs Go.ChangeShapes Go.WideShapes Go.ChangeAt Go.RowKit
def num (z : Nat → Nat) : Nat := z 0 + 18446744073709551616 * z 1 + 340282366920938463463374607431768211456 * z 2 + 6277101735386680763835789423207666416102355444464034512896 * z 3
theorem lc_num {z : Nat → Nat} (h : ∀ k, z k < 18446744073709551616) : lc (num z) = [.int .u64 (z 0 : Int), .int .u64 (z 1 : Int), .int .u64 (z 2 : Int), .int .u64 (z 3 : Int)] := (lc_of (h 0) (h 1) (h 2) (h 3)).symm
theorem num_lt {z : Nat → Nat} (h : ∀ k, z k < 18446744073709551616) : num z < 115792089237316195423570985008687907853269984665640564039457584007913129639936 := by
  have h0 := h 0; have h1 := h 1; have h2 := h 2; have h3 := h 3
  unfold num
  omega
theorem sim_cells {W : World} {a : Addr} (hs : a.spot = none) (z : Nat → Nat → Nat) (hz : ∀ i k, z i k < 18446744073709551616) : ∀ (n : Nat), (∀ i, i < n → ∀ k, k < 4 → W.cell? (a.add (i * 4 + k)) = some (.int .u64 (z i k : Int))) →
    ∀ (j : Nat) (v : V), (scs n fun i => num (z i))[j]? = some v → ∃ x : Int, v = .int .u64 x ∧ W.cell? ⟨a.block, a.off + j, none⟩ = some (.int .u64 x)
  | 0, _, j, v, hj => by simp [scs, row] at hj
  | n + 1, h, j, v, hj => by
    have hlen := scs_len n fun i => num (z i)
    have e : (scs (n + 1) fun i => num (z i)) = (scs n fun i => num (z i)) ++ lc (num (z n)) := rfl
    rw [e] at hj
    rcases Nat.lt_or_ge j (n * 4) with hlt | hge
    · rw [List.getElem?_append_left (by rw [hlen]; exact hlt)] at hj
      exact sim_cells hs z hz n (fun i hi => h i (by omega)) j v hj
    · rw [List.getElem?_append_right (by rw [hlen]; exact hge), hlen, lc_num (hz n)] at hj
      have key : ∀ k, k < 4 → j - n * 4 = k → W.cell? ⟨a.block, a.off + j, none⟩ = some (.int .u64 (z n k : Int)) := by
        intro k hk e
        have := h n (Nat.lt_succ_self n) k hk
        rw [show n * 4 + k = j by omega] at this
        obtain ⟨b, o, sp⟩ := a
        simp only at hs
        subst hs
        rw [Addr.add_lit] at this
        exact this
      have : j - n * 4 < 4 := by
        have := (List.getElem?_eq_some_iff.1 hj).1
        simpa using this
      have : j - n * 4 = 0 ∨ j - n * 4 = 1 ∨ j - n * 4 = 2 ∨ j - n * 4 = 3 := by omega
      rcases this with e | e | e | e <;> rw [e] at hj <;> simp at hj <;> subst hj
      · exact ⟨_, rfl, key 0 (by omega) e⟩
      · exact ⟨_, rfl, key 1 (by omega) e⟩
      · exact ⟨_, rfl, key 2 (by omega) e⟩
      · exact ⟨_, rfl, key 3 (by omega) e⟩
def GlobsOk (G : Nat → List V) (W : World) : Prop := (∀ g o v, (G g)[o]? = some v → v ≠ .unk → ∃ r, conc [] v = some r ∧ W.cell? ⟨g, o, none⟩ = some r) ∧ ∀ g, W.heap.size ≤ g → G g = []
def RoB (W : World) (b : Option Blk) (p : Option Pl) : Prop :=
  b = none ∨ ∃ cs q, b = some ⟨.ro, cs⟩ ∧ p = some q ∧ q.block < W.heap.size ∧ cs.length ≤ q.size ∧ ∀ (j : Nat) v, cs[j]? = some v → v ≠ .unk → ∃ r, conc [] v = some r ∧ W.cell? ⟨q.block, q.base + j, none⟩ = some r
theorem sim_ro {G : Nat → List V} {W : World} (hG : GlobsOk G W) {ρ : Rho} {h : Heap} (hl : ρ.length = h.length) (hb : ∀ i b, h[i]? = some b → RoB W b (place ρ i)) : Sim G ρ h W := by
  have key : ∀ i b, Live h i b → ∃ q, b.kind = .ro ∧ place ρ i = some q ∧ q.block < W.heap.size ∧ b.cells.length ≤ q.size ∧ ∀ (j : Nat) v, b.cells[j]? = some v → v ≠ .unk → ∃ r, conc [] v = some r ∧ W.cell? ⟨q.block, q.base + j, none⟩ = some r := by
    intro i b hi
    rcases hb i (some b) hi with e | ⟨cs, q, e, h1, h2, h3, h4⟩
    · cases e
    · cases e; exact ⟨q, rfl, h1, h2, h3, h4⟩
  refine ⟨hl, fun i b h => ?_, fun i b r h hp _ j v hj hu => ?_, fun i b r h hp => ?_, fun i b r h hp hk => ?_, fun i j bi bj pi pj hij hi hj h1 h2 h3 => ?_, hG.1, hG.2, fun i b p r h hp hk => ?_⟩
  · obtain ⟨q, _, h1, _⟩ := key i b h
    exact ⟨q, h1⟩
  · obtain ⟨q, _, h1, _, _, h4⟩ := key i b h
    obtain rfl := Option.some.inj (h1.symm.trans hp)
    obtain ⟨x, e1, e2⟩ := h4 j v hj hu
    exact ⟨x, conc_ext (fun i p hp => by simp [place] at hp) _ _ e1, e2⟩
  · obtain ⟨q, _, h1, h2, h3, _⟩ := key i b h
    obtain rfl := Option.some.inj (h1.symm.trans hp)
    exact ⟨h2, h3⟩
  · obtain ⟨q, h0, _⟩ := key i b h
    rw [h0] at hk; cases hk
  · obtain ⟨q, h0, _⟩ := key i bi hi
    exact absurd h0 h3
  · obtain ⟨q, h0, _⟩ := key i b h
    rw [h0] at hk; cases hk
theorem globs_one {P : Program} {W : World} {name : String} {g : Nat} (hg : P.globalNamed name = some g) {rs : Array Value} (h : W.var? P name = some rs) {cs : List V} (hc : concs [] cs = some rs.toList) : GlobsOk (fun k => if k = g then cs else []) W := by
  unfold World.var? at h
  rw [hg] at h
  simp only [Option.bind_some] at h
  split at h <;> try (cases h; done)
  rename_i cells e fr hh
  simp only [Option.some.injEq] at h
  subst h
  refine ⟨fun k o v hv _ => ?_, fun k hle => ?_⟩
  · dsimp only at hv
    split at hv
    · rename_i e0
      subst e0
      obtain ⟨x, hx, hr⟩ := concs_get hc o v hv
      refine ⟨x, hx, ?_⟩
      unfold World.cell?
      simp only [hh]
      simpa using hr
    · simp at hv
  · dsimp only
    rw [if_neg]
    rintro rfl
    have : W.heap[k]? = none := Array.getElem?_eq_none hle
    rw [this] at hh
    cases hh
variable {P : Program} {H : Type} {enc : TypeId × Value → H} {W : World} {base : Nat}
theorem elem_of {e w : TypeId} (he : P.underlying e = some (.array 4 w)) (hw : P.underlying w = some (.int .u64)) (s1 : P.cellsOf w = 1) (s4 : P.cellsOf e = 4) {n : Nat} {cs : List Value} {x : DataW H × List MemPlace} (h : DataW.trod enc P W 0 (fun _ => true) true n e cs = some x) :
    ∃ z : Nat → Nat, (∀ k, z k < 18446744073709551616) ∧ cs.length = 4 ∧ ∀ k, k < 4 → cs[k]? = some (.int .u64 (z k : Int)) := by
  obtain ⟨xs, m, _, _, hl, hxl, hel⟩ := DataW.trod_array he h
  rw [s4] at hl
  have key : ∀ k, k < 4 → ∃ z : Nat, z < 18446744073709551616 ∧ cs[k]? = some (.int .u64 (z : Int)) := by
    intro k hk
    have hk' := hel k hk
    rw [s1, Nat.mul_one] at hk'
    obtain ⟨y, hy⟩ : ∃ y, xs[k]? = some y := ⟨xs[k], List.getElem?_eq_getElem (by omega)⟩
    rw [hy] at hk'
    obtain ⟨z, e1, _, hwf⟩ := DataW.trod_int hw hk'
    have hb := bounds_u64 hwf
    refine ⟨z.toNat, by omega, ?_⟩
    have e2 : ((cs.drop k).take 1)[0]? = some (.int .u64 z) := by rw [e1]; rfl
    rw [List.getElem?_take_of_lt (by decide), List.getElem?_drop, Nat.add_zero] at e2
    rw [e2, show ((z.toNat : Nat) : Int) = z by omega]
  obtain ⟨z0, a0, b0⟩ := key 0 (by omega)
  obtain ⟨z1, a1, b1⟩ := key 1 (by omega)
  obtain ⟨z2, a2, b2⟩ := key 2 (by omega)
  obtain ⟨z3, a3, b3⟩ := key 3 (by omega)
  refine ⟨fun k => if k = 0 then z0 else if k = 1 then z1 else if k = 2 then z2 else if k = 3 then z3 else 0, fun k => ?_, hl, fun k hk => ?_⟩
  · show (if k = 0 then z0 else if k = 1 then z1 else if k = 2 then z2 else if k = 3 then z3 else 0) < _
    (repeat' split) <;> omega
  · have : k = 0 ∨ k = 1 ∨ k = 2 ∨ k = 3 := by omega
    rcases this with rfl | rfl | rfl | rfl
    · exact b0
    · exact b1
    · exact b2
    · exact b3
theorem word_of {e w : TypeId} (he : P.underlying e = some (.array 4 w)) (hw : P.underlying w = some (.int .u64)) (s1 : P.cellsOf w = 1) (s4 : P.cellsOf e = 4) {n : Nat} {cs : List Value} {x : DataW H × List MemPlace} (h : DataW.trod enc P W 0 (fun _ => true) true n e cs = some x) :
    ∃ k, k < 115792089237316195423570985008687907853269984665640564039457584007913129639936 ∧ ∀ ρ, concs ρ (lc k) = some cs := by
  obtain ⟨z, hz, hl, hc⟩ := elem_of he hw s1 s4 h
  refine ⟨num z, num_lt hz, fun ρ => ?_⟩
  rw [lc_num hz]
  match cs, hl with
  | [a, b, c, d], _ =>
    have e0 := hc 0 (by omega); have e1 := hc 1 (by omega); have e2 := hc 2 (by omega); have e3 := hc 3 (by omega)
    simp at e0 e1 e2 e3
    subst e0 e1 e2 e3
    rfl
theorem slice_of {t e w : TypeId} (ht : P.underlying t = some (.slice e)) (he : P.underlying e = some (.array 4 w)) (hw : P.underlying w = some (.int .u64)) (s1 : P.cellsOf w = 1) (s4 : P.cellsOf e = 4) {n : Nat} {v : Value} {x : DataW H × List MemPlace}
    (hok : Cell.okWide P W .any base t v) (h : DataW.trod enc P W 0 (fun _ => true) true n t [v] = some x) :
    ∃ (f : Nat → Nat) (n m : Nat) (z : Bool) (p : Option Pl), Ok n m z ∧ (∀ j, f j < 115792089237316195423570985008687907853269984665640564039457584007913129639936) ∧ RoB W (ivb f n z) p ∧ ∀ ρ i, place ρ i = p → conc ρ (ivl i n m z) = some v := by
  unfold Cell.okWide at hok
  rw [ht] at hok
  have hok : Cell.ok P W .any base t v := by
    cases v <;> exact hok
  unfold Cell.ok at hok
  rw [ht] at hok
  split at hok <;> try (exact hok.elim) <;> try (rename_i e _; cases e; done)
  all_goals try (rename_i e; cases e; done)
  all_goals try (rename_i e _ ; cases e; done)
  · exact ⟨fun _ => 0, 0, 0, true, none, ⟨Nat.le_refl _, fun _ => rfl⟩, fun _ => (by decide : (0 : Nat) < 115792089237316195423570985008687907853269984665640564039457584007913129639936), .inl rfl, fun _ _ _ => rfl⟩
  · rename_i e' a len cap heq _
    obtain rfl : e = e' := by simpa using heq
    obtain ⟨hlc, hcap, _, hspot, row, cells, hshape, _⟩ := hok
    have hblk : a.block < W.heap.size := by
      unfold World.shape? at hshape
      split at hshape
      · rename_i e
        exact (Array.getElem?_eq_some_iff.1 e).1
      · cases hshape
    rcases Go.Deep.open_slice ht h with ⟨e, _⟩ | ⟨a', len', cap', m, n, D, Pl, e, _, _, _, hm, _, hel⟩
    · simp at e
    · have e' : a = a' ∧ len = len' ∧ cap = cap' := by simpa using e
      obtain ⟨rfl, rfl, rfl⟩ := e'
      have hm' : m = cap := by rw [hm]; rfl
      have hex : ∀ i, i < len → ∃ z : Nat → Nat, (∀ k, z k < 18446744073709551616) ∧ ∀ k, k < 4 → W.cell? (a.add (i * 4 + k)) = some (.int .u64 (z k : Int)) := by
        intro i hi
        obtain ⟨cs', h1, h2⟩ := hel i (by omega)
        obtain ⟨z, hz, _, hc⟩ := elem_of he hw s1 s4 h2
        refine ⟨z, hz, fun k hk => ?_⟩
        rw [s4] at h1
        unfold World.cells? at h1
        rw [if_pos (Nat.zero_le _)] at h1
        have h3 := mapM_some_get h1 k k (by rw [List.getElem?_range hk])
        rw [hc k hk, Go.Deep.add_add] at h3
        exact h3
      obtain ⟨Z, hZ⟩ := Go.Deep.choose_lt hex
      let z' : Nat → Nat → Nat := fun i => if i < len then Z i else fun _ => 0
      have hz' : ∀ i k, z' i k < 18446744073709551616 := by
        intro i k
        show (if i < len then Z i else fun _ => 0) k < _
        split
        · rename_i hi; exact (hZ i hi).1 k
        · exact (by decide : (0 : Nat) < 18446744073709551616)
      have hc' : ∀ i, i < len → ∀ k, k < 4 → W.cell? (a.add (i * 4 + k)) = some (.int .u64 (z' i k : Int)) := by
        intro i hi k hk
        show _ = some (Value.int .u64 (((if i < len then Z i else fun _ => 0) k : Nat) : Int))
        rw [if_pos hi]
        exact (hZ i hi).2 k hk
      refine ⟨fun i => num (z' i), len, cap, false, some ⟨a.block, a.off, len * 4⟩, ⟨hlc, fun h => (by cases h)⟩, fun j => num_lt (hz' j), .inr ⟨_, _, rfl, rfl, hblk, by rw [scs_len]; exact Nat.le_refl _, fun j v hj _ => ?_⟩, fun ρ i hp => ?_⟩
      · obtain ⟨x, rfl, hx⟩ := sim_cells hspot z' hz' len hc' j v hj
        exact ⟨_, rfl, hx⟩
      · obtain ⟨b, o, sp⟩ := a
        simp only at hspot
        subst hspot
        show (place ρ i).map _ = _
        rw [hp]
        rfl
theorem calls_of {G : Nat → List V} {f : FuncId} {args : List V} {h : Heap} {u : V} (hcf : ∀ (xs : Array Value) w, (callFunc f xs).run P w = .ok (.enter f xs) w) (hro : ∀ b ∈ h, wrB b = false) (hv : VCall P G f args h fun v k => v = u ∧ k = h) {ρ : Rho} {W : World} {vs : List Value} {r : Value}
    (hs : Sim G ρ h W) (hc : concs ρ args = some vs) (hr : ∀ ρ, conc ρ u = some r) : Calls P f vs.toArray W fun e w' => e = .returned r ∧ Below W.heap.size W w' := by
  have hno : ∀ b, ¬ WR ρ h b := by
    rintro b ⟨i, bk, q, h1, h2, h3, h4⟩
    exact h3 (by
      have := hro _ (List.mem_of_getElem? h1)
      obtain ⟨k, c⟩ := bk
      cases k <;> simp [wrB] at this ⊢)
  rcases hv ρ W vs hs hc with ⟨_, h⟩ | ⟨v', w', h, _⟩
  · refine h.mono fun e w' hr' => ?_
    obtain ⟨ρ', x, h', y, rfl, h2, h3, h4, rfl, _⟩ := hr'
    rw [hr] at h2
    cases h2
    exact ⟨rfl, h4.os, h4.tape, h4.output, h4.size, fun b hb => h4.same b hb (hno b)⟩
  · rw [hcf] at h
    cases h
end Go.Vs.Tryd
namespace Go.Proofs.YtebekndmhgmfbaaDoor
open Go.ChangeShapes Go.WideShapes Go.ChangeAt Go.RowKit Go.Vs
set_option maxRecDepth 100000
theorem u22 : Tryd.prog.underlying 22 = some (.int .u64) := by kernel_rfl
theorem u23 : Tryd.prog.underlying 23 = some (.array 4 22) := by kernel_rfl
theorem u24 : Tryd.prog.underlying 24 = some (.slice 23) := by kernel_rfl
theorem c22 : Tryd.prog.cellsOf 22 = 1 := by kernel_rfl
theorem c23 : Tryd.prog.cellsOf 23 = 4 := by kernel_rfl
theorem u27 : Tryd.prog.underlying 27 = some (.array 4 22) := by kernel_rfl
theorem c27 : Tryd.prog.cellsOf 27 = 4 := by kernel_rfl
theorem u127 : Tryd.prog.underlying 127 = some (.array 4 27) := by kernel_rfl
theorem c127 : Tryd.prog.cellsOf 127 = 16 := by kernel_rfl
theorem four {n : Nat} {W : World} {base : Nat} {sp : Nat → Bool} {held : Bool} {enc : TypeId × Value → Unit} {cs : List Value} {a b c d : Int} {p : List MemPlace} (h : DataW.trod enc Tryd.prog W base sp held n 27 cs = some (.agg [.lit (.int .u64 a), .lit (.int .u64 b), .lit (.int .u64 c), .lit (.int .u64 d)], p)) :
    cs = [.int .u64 a, .int .u64 b, .int .u64 c, .int .u64 d] := by
  obtain ⟨xs, m, _, ex, hlen, hl, hel⟩ := DataW.trod_array u27 h
  rw [c27] at hlen
  match cs, hlen with
  | [v0, v1, v2, v3], _ =>
    match xs, hl with
    | [x0, x1, x2, x3], _ =>
      have e3 := (DataW.agg.inj (Prod.mk.inj ex).1)
      simp only [List.map_cons, List.map_nil, List.cons.injEq, and_true] at e3
      have k0 := hel 0 (by omega); have k1 := hel 1 (by omega); have k2 := hel 2 (by omega); have k3 := hel 3 (by omega)
      rw [c22] at k0 k1 k2 k3
      obtain ⟨z0, a0, b0, _⟩ := DataW.trod_int u22 k0
      obtain ⟨z1, a1, b1, _⟩ := DataW.trod_int u22 k1
      obtain ⟨z2, a2, b2, _⟩ := DataW.trod_int u22 k2
      obtain ⟨z3, a3, b3, _⟩ := DataW.trod_int u22 k3
      simp_all
def tblV : Array Value := #[.int .u64 6346243789798364141, .int .u64 1503914060200516822, .int .u64 0, .int .u64 1152921504606846976, .int .u64 15486807595281847581, .int .u64 14334777244411350896, .int .u64 18446744073709551614, .int .u64 1152921504606846975, .int .u64 11819153939886771969, .int .u64 14991950615390032711, .int .u64 14910419812499177061, .int .u64 259310039853996605, .int .u64 6346243789798364139, .int .u64 1503914060200516822, .int .u64 0, .int .u64 1152921504606846976]
theorem tableCells {W : World} {rest : List (String × DataW Unit)} (hp : laidMet Tryd.prog (("veil/scalar.table", Rows.laid_veil_scalar_table) :: rest) W) : W.var? Tryd.prog "veil/scalar.table" = some tblV := by
  obtain ⟨ps, ⟨g, t, cs, fuel, p, q, hg, ht, hv, hd, _, _⟩, _, _⟩ := hp
  obtain rfl := Option.some.inj ((show Tryd.prog.globalNamed "veil/scalar.table" = some 0 by kernel_rfl).symm.trans hg)
  obtain rfl := Option.some.inj ((show (Tryd.prog.globals[0]?).map (·.type) = some 127 by kernel_rfl).symm.trans ht)
  obtain ⟨xs, m, _, ex, hlen, hl, hel⟩ := DataW.trod_array u127 hd
  rw [c127] at hlen
  match xs, hl with
  | [x0, x1, x2, x3], _ =>
    have e3 := (DataW.agg.inj (Prod.mk.inj ex).1)
    simp only [List.map_cons, List.map_nil, List.cons.injEq, and_true] at e3
    obtain ⟨e0, e1, e2, e3⟩ := e3
    have k0 := hel 0 (by omega); have k1 := hel 1 (by omega); have k2 := hel 2 (by omega); have k3 := hel 3 (by omega)
    rw [c27] at k0 k1 k2 k3
    obtain ⟨d0, p0⟩ := x0
    obtain ⟨d1, p1⟩ := x1
    obtain ⟨d2, p2⟩ := x2
    obtain ⟨d3, p3⟩ := x3
    simp only at e0 e1 e2 e3
    subst e0 e1 e2 e3
    have f0 := four k0
    have f1 := four k1
    have f2 := four k2
    have f3 := four k3
    rw [hv]
    obtain ⟨l⟩ := cs
    simp only at f0 f1 f2 f3 hlen
    have hsplit : l = (l.drop (0 * 4)).take 4 ++ (l.drop (1 * 4)).take 4 ++ (l.drop (2 * 4)).take 4 ++ (l.drop (3 * 4)).take 4 := by
      match l, hlen with
      | [_, _, _, _, _, _, _, _, _, _, _, _, _, _, _, _], _ => rfl
    rw [hsplit, f0, f1, f2, f3]
    rfl
def GT : Nat → List V := fun g => if g = 0 then Go.Vs.Tryd.tbl else []
theorem globs_of {W : World} (h : W.var? Tryd.prog "veil/scalar.table" = some tblV) : Go.Vs.Tryd.GlobsOk GT W :=
  Go.Vs.Tryd.globs_one (show Tryd.prog.globalNamed "veil/scalar.table" = some 0 by kernel_rfl) h (by rfl)
def flds (P : Program) (t : TypeId) : Option (List (Nat × Nat)) := match P.underlying t with
  | some (.struct fs) => some (fs.toList.map fun f => (f.offset, f.type))
  | _ => none
theorem flds_some {P : Program} {t : TypeId} {l : List (Nat × Nat)} (h : flds P t = some l) : ∃ fs, P.underlying t = some (.struct fs) ∧ fs.toList.map (fun f => (f.offset, f.type)) = l := by
  unfold flds at h
  split at h
  · rename_i fs e
    exact ⟨fs, e, Option.some.inj h⟩
  · cases h
theorem u26 : ∃ fs, Tryd.prog.underlying 26 = some (.struct fs) ∧ fs.toList.map (fun f => (f.offset, f.type)) = [(0, 23), (4, 23), (8, 24), (9, 24), (10, 24), (11, 24), (12, 24), (13, 24), (14, 23), (18, 23), (22, 4), (23, 24), (24, 9), (25, 3)] := flds_some (by kernel_rfl)
theorem c24 : Tryd.prog.cellsOf 24 = 1 := by kernel_rfl
theorem c4 : Tryd.prog.cellsOf 4 = 1 := by kernel_rfl
theorem c9 : Tryd.prog.cellsOf 9 = 1 := by kernel_rfl
theorem c3 : Tryd.prog.cellsOf 3 = 1 := by kernel_rfl
theorem c26 : Tryd.prog.cellsOf 26 = 26 := by kernel_rfl
theorem u4 : Tryd.prog.underlying 4 = some .bool := by kernel_rfl
theorem u9 : Tryd.prog.underlying 9 = some .string := by kernel_rfl
theorem u3 : Tryd.prog.underlying 3 = some (.int .i64) := by kernel_rfl
theorem t26 : Tryd.prog.cellTypes Tryd.prog.depth 26 = some [22, 22, 22, 22, 22, 22, 22, 22, 24, 24, 24, 24, 24, 24, 22, 22, 22, 22, 22, 22, 22, 22, 4, 24, 9, 3] := by kernel_rfl
theorem case_of {H : Type} {enc : TypeId × Value → H} {W : World} {base : Nat} {v : Value} {d : DataW H} {ps : List MemPlace} (hval : Value.okWide Tryd.prog W .any base 26 v) (h : DataW.Trod enc Tryd.prog W 0 (fun _ => true) true 26 v d ps) :
    ∃ (g hh a b l r u : Nat → Nat) (Q P ea eb nG mG nH mH nA mA nB mB nL mL nR mR nU mU : Nat) (zG zH zA zB zL zR zU : Bool) (sc : Bool) (lab : ByteArray) (N : Int) (ρ : Rho),
      ((∀ j, g j < 2^256) ∧ (∀ j, hh j < 2^256) ∧ (∀ j, a j < 2^256) ∧ (∀ j, b j < 2^256) ∧ (∀ j, l j < 2^256) ∧ (∀ j, r j < 2^256) ∧ (∀ j, u j < 2^256)) ∧
      (Q < 2^256 ∧ P < 2^256 ∧ ea < 2^256 ∧ eb < 2^256) ∧
      (Go.Vs.Tryd.Ok nG mG zG ∧ Go.Vs.Tryd.Ok nH mH zH ∧ Go.Vs.Tryd.Ok nA mA zA ∧ Go.Vs.Tryd.Ok nB mB zB ∧ Go.Vs.Tryd.Ok nL mL zL ∧ Go.Vs.Tryd.Ok nR mR zR ∧ Go.Vs.Tryd.Ok nU mU zU) ∧
      (N < 2^63 ∧ -2^63 ≤ N) ∧
      (∀ {G}, Go.Vs.Tryd.GlobsOk G W → Sim G ρ [Go.Vs.Tryd.ivb g nG zG, Go.Vs.Tryd.ivb hh nH zH, Go.Vs.Tryd.ivb a nA zA, Go.Vs.Tryd.ivb b nB zB, Go.Vs.Tryd.ivb l nL zL, Go.Vs.Tryd.ivb r nR zR, Go.Vs.Tryd.ivb u nU zU] W) ∧
      conc ρ (.agg (Go.Vs.Tryd.cas Q P (Go.Vs.Tryd.ivl 0 nG mG zG) (Go.Vs.Tryd.ivl 1 nH mH zH) (Go.Vs.Tryd.ivl 2 nA mA zA) (Go.Vs.Tryd.ivl 3 nB mB zB) (Go.Vs.Tryd.ivl 4 nL mL zL) (Go.Vs.Tryd.ivl 5 nR mR zR) ea eb (.bool sc) (Go.Vs.Tryd.ivl 6 nU mU zU) (.str lab) (.int .i64 N))) = some v := by
  obtain ⟨fuel, h⟩ := h
  obtain ⟨fs, hfs, hof⟩ := u26
  have hv : ∃ cs, v = .agg cs ∧ cs.size = 26 ∧ Row.okWide Tryd.prog W .any base 26 cs := by
    unfold Value.okWide at hval
    rw [hfs] at hval
    simpa [c26] using hval
  obtain ⟨cs, rfl, hsz, ts, hts, _, hcell⟩ := hv
  rw [t26] at hts
  obtain rfl := Option.some.inj hts
  obtain ⟨xs, n, _, _, hlen, hxl, hel⟩ := DataW.trod_struct hfs h
  have hfl : fs.size = 14 := by have := congrArg List.length hof; simpa using this
  have fld : ∀ (i o t : Nat), (fs.toList.map (fun f => (f.offset, f.type)))[i]? = some (o, t) → ∃ x, DataW.trod enc Tryd.prog W 0 (fun _ => true) true n t ((cs.toList.drop o).take (Tryd.prog.cellsOf t)) = some x := by
    intro i o t hi
    rw [List.getElem?_map] at hi
    simp only [Option.map_eq_some_iff, Prod.mk.injEq] at hi
    obtain ⟨f, hf, rfl, rfl⟩ := hi
    have hlt : i < fs.size := by
      have := (List.getElem?_eq_some_iff.1 hf).1
      simpa using this
    have := hel i f (by simpa using hf)
    obtain ⟨y, hy⟩ : ∃ y, xs[i]? = some y := ⟨xs[i], List.getElem?_eq_getElem (by omega)⟩
    exact ⟨y, this.trans hy⟩
  rw [hof] at fld
  have wd : ∀ (i o : Nat), ([(0, 23), (4, 23), (8, 24), (9, 24), (10, 24), (11, 24), (12, 24), (13, 24), (14, 23), (18, 23), (22, 4), (23, 24), (24, 9), (25, 3)] : List (Nat × Nat))[i]? = some (o, 23) → ∃ k, k < 2^256 ∧ ∀ ρ, concs ρ (Go.Vs.Tryd.lc k) = some ((cs.toList.drop o).take 4) := by
    intro i o hi
    obtain ⟨x, hx⟩ := fld i o 23 hi
    rw [c23] at hx
    exact Go.Vs.Tryd.word_of u23 u22 c22 c23 hx
  have sl : ∀ (i o : Nat), ([(0, 23), (4, 23), (8, 24), (9, 24), (10, 24), (11, 24), (12, 24), (13, 24), (14, 23), (18, 23), (22, 4), (23, 24), (24, 9), (25, 3)] : List (Nat × Nat))[i]? = some (o, 24) → o < 26 → ([22, 22, 22, 22, 22, 22, 22, 22, 24, 24, 24, 24, 24, 24, 22, 22, 22, 22, 22, 22, 22, 22, 4, 24, 9, 3] : List Nat)[o]? = some 24 →
      ∃ (f : Nat → Nat) (n m : Nat) (z : Bool) (p : Option Pl) (w : Value), Go.Vs.Tryd.Ok n m z ∧ (∀ j, f j < 2^256) ∧ Go.Vs.Tryd.RoB W (Go.Vs.Tryd.ivb f n z) p ∧ (∀ ρ i, place ρ i = p → conc ρ (Go.Vs.Tryd.ivl i n m z) = some w) ∧ cs.toList[o]? = some w := by
    intro i o hi ho ht
    obtain ⟨x, hx⟩ := fld i o 24 hi
    have hlt : o < cs.toList.length := by simpa [hsz] using ho
    obtain ⟨w, hw⟩ : ∃ w, cs.toList[o]? = some w := ⟨cs.toList[o], List.getElem?_eq_getElem hlt⟩
    have e1 : (cs.toList.drop o).take 1 = [w] := by
      rw [List.drop_eq_getElem_cons hlt]
      have := (List.getElem?_eq_some_iff.1 hw).2
      simp [this]
    rw [c24, e1] at hx
    obtain ⟨u, hu, hok⟩ := hcell o w (by simpa using hw)
    have hu' : u = 24 := by
      have : o % 26 = o := Nat.mod_eq_of_lt ho
      simp only [List.length_cons, List.length_nil, Nat.reduceAdd, this] at hu
      rw [ht] at hu
      exact (Option.some.inj hu).symm
    subst hu'
    obtain ⟨f, n, m, z, p, k1, k2, k3, k4⟩ := Go.Vs.Tryd.slice_of u24 u23 u22 c22 c23 hok hx
    exact ⟨f, n, m, z, p, w, k1, k2, k3, k4, hw⟩
  obtain ⟨Q, hQ, eQ⟩ := wd 0 0 rfl
  obtain ⟨P, hP, eP⟩ := wd 1 4 rfl
  obtain ⟨ea, hea, eea⟩ := wd 8 14 rfl
  obtain ⟨eb, heb, eeb⟩ := wd 9 18 rfl
  obtain ⟨g, nG, mG, zG, pG, wG, g1, g2, g3, g4, g5⟩ := sl 2 8 rfl (by omega) rfl
  obtain ⟨hh, nH, mH, zH, pH, wH, h1, h2, h3, h4, h5⟩ := sl 3 9 rfl (by omega) rfl
  obtain ⟨a, nA, mA, zA, pA, wA, a1, a2, a3, a4, a5⟩ := sl 4 10 rfl (by omega) rfl
  obtain ⟨b, nB, mB, zB, pB, wB, b1, b2, b3, b4, b5⟩ := sl 5 11 rfl (by omega) rfl
  obtain ⟨l, nL, mL, zL, pL, wL, l1, l2, l3, l4, l5⟩ := sl 6 12 rfl (by omega) rfl
  obtain ⟨r, nR, mR, zR, pR, wR, r1, r2, r3, r4, r5⟩ := sl 7 13 rfl (by omega) rfl
  obtain ⟨u, nU, mU, zU, pU, wU, u1, u2, u3', u4', u5⟩ := sl 11 23 rfl (by omega) rfl
  obtain ⟨xb, hxb⟩ := fld 10 22 4 rfl
  obtain ⟨xs', hxs⟩ := fld 12 24 9 rfl
  obtain ⟨xn, hxn⟩ := fld 13 25 3 rfl
  rw [c4] at hxb
  rw [c9] at hxs
  rw [c3] at hxn
  obtain ⟨sc, eb1, _⟩ := DataW.trod_bool u4 hxb
  obtain ⟨lab, es1, _⟩ := DataW.trod_string u9 hxs
  obtain ⟨N, en1, _, hN⟩ := DataW.trod_int u3 hxn
  have hN' := bounds_i64 hN
  refine ⟨g, hh, a, b, l, r, u, Q, P, ea, eb, nG, mG, nH, mH, nA, mA, nB, mB, nL, mL, nR, mR, nU, mU, zG, zH, zA, zB, zL, zR, zU, sc, lab, N, [pG, pH, pA, pB, pL, pR, pU], ⟨g2, h2, a2, b2, l2, r2, u2⟩, ⟨hQ, hP, hea, heb⟩, ⟨g1, h1, a1, b1, l1, r1, u1⟩, ⟨by omega, by omega⟩, fun hG => Go.Vs.Tryd.sim_ro hG rfl fun i b hi => ?_, ?_⟩
  · match i, hi with
    | 0, hi => cases hi; exact g3
    | 1, hi => cases hi; exact h3
    | 2, hi => cases hi; exact a3
    | 3, hi => cases hi; exact b3
    | 4, hi => cases hi; exact l3
    | 5, hi => cases hi; exact r3
    | 6, hi => cases hi; exact u3'
    | n + 7, hi => simp at hi
  · have hl26 : cs.toList.length = 26 := by simpa using hsz
    obtain ⟨L⟩ := cs
    simp only at *
    match L, hl26 with
    | [v0, v1, v2, v3, v4, v5, v6, v7, v8, v9, v10, v11, v12, v13, v14, v15, v16, v17, v18, v19, v20, v21, v22, v23, v24, v25], _ =>
      simp only [List.drop_zero, List.drop_succ_cons, List.take_succ_cons, List.take_zero, List.take_nil, List.getElem?_cons_zero, List.getElem?_cons_succ, Option.some.injEq, List.cons.injEq, and_true] at *
      subst g5 h5 a5 b5 l5 r5 u5 eb1 es1 en1
      simp only [Go.Vs.Tryd.cas, conc]
      rw [Option.map_eq_some_iff]
      refine ⟨_, ?_, rfl⟩
      refine concs_append (r := [v0, v1, v2, v3]) (eQ _) (concs_append (r := [v4, v5, v6, v7]) (eP _) ?_)
      refine concs_cons.2 ⟨_, _, g4 _ 0 rfl, concs_cons.2 ⟨_, _, h4 _ 1 rfl, concs_cons.2 ⟨_, _, a4 _ 2 rfl, concs_cons.2 ⟨_, _, b4 _ 3 rfl, concs_cons.2 ⟨_, _, l4 _ 4 rfl, concs_cons.2 ⟨_, _, r4 _ 5 rfl, ?_, rfl⟩, rfl⟩, rfl⟩, rfl⟩, rfl⟩, rfl⟩
      refine concs_append (r := [v14, v15, v16, v17]) (eea _) (concs_append (r := [v18, v19, v20, v21]) (eeb _) ?_)
      refine concs_cons.2 ⟨_, _, rfl, concs_cons.2 ⟨_, _, u4' _ 6 rfl, rfl, rfl⟩, rfl⟩
end Go.Proofs.YtebekndmhgmfbaaDoor
namespace Go.Vs
open Go
theorem onlyLeaving_of_quiet {P : Program} {m : Machine} (h : m.quiet) : m.OnlyLeaving P :=
  ⟨fun g hg => ⟨0, show g.status = .finished by have := List.all_eq_true.1 h.1 g hg; simpa using this⟩, h.2⟩
theorem leavingWide_of_handed {a : Assume} {C : Checked} {os : Os} {f : FuncId} {r : Reach} {Pre : World → Array Value → Prop} {Post : World → Array Value → Value → World → Prop}
    (h : ReturnsInHanded a C os f r Pre Post) : ReturnsInLeavingWide a C os f r Pre Post := fun enter =>
  ReturnsInOpen.mono (fun _ _ _ x => ⟨x.2.1, onlyLeaving_of_quiet x.1, x.2.2⟩) (fun _ x => x) (h enter)
theorem holds_tied_goes (Lk : Looks) {p : Pinned} {s : OpenSpec} {c : OpenClaim} (kinds : List LaidKind) (tests : Bool) (har : Bool × String) (lk g : Bool)
    (hc : c.holds p s) (hw : c.wfByText s = true) (htie : c.laidByTextAt Lk p kinds tests)
    (hst : c.start = .entering) (hnb : c.noBlocks = false ∧ c.again = false) (hm : p.checked.prog.mainIs = some (har.1, har.2.toList)) (hn : (!har.1 && har.2.isEmpty && !lk) = false)
    (hl : ∀ f fn, p.checked.prog.funcNamed c.func = some f → p.checked.prog.funcs[f]? = some fn → lk = p.checked.prog.looks [] ∧ ∀ (j : Nat) t, fn.params[j]? = some t → p.checked.prog.wantsStandIn t = false)
    (hg : g = c.goesBy p.checked.prog) :
    Claim7.holds p (.plain s) { stood := { row := c, standIns := [], harness := har, looks := lk }, kinds := [], alts := [], goes := g, laidByText := true, laidKinds := kinds, laidTests := tests, laidLooks := Lk } := by
  have h6 : ∀ r : OpenClaim, Claim7.isSixth { stood := { row := r, standIns := [], harness := har, looks := lk }, kinds := [] } = false := fun r => by simpa [Claim7.isSixth] using hn
  refine ⟨?_, fun D hD => (by cases hD), htie, (fun h => by cases h), hg⟩
  exact Claim7.tied_new_at Lk kinds tests (Claim7.new_of_sixth hc har lk hst hnb hm (h6 c) hl) hw
end Go.Vs
namespace Go.Proofs.YtebekndmhgmfbaaDoor
open Go.ChangeShapes Go.WideShapes Go.ChangeAt Go.RowKit Go.Vs
set_option maxRecDepth 100000
def laidT : List (String × DataW Unit) := [("veil/scalar.table", Rows.laid_veil_scalar_table), ("veil/veilref01.Zero", Rows.laid_veil_veilref01_Zero), ("veil/veilref01.One", Rows.laid_veil_veilref01_One), ("veil/veilref01.prime", Rows.laid_veil_veilref01_prime)]
theorem tableOf {W : World} (h : laidMetH Tryd.prog laidT W) : W.var? Tryd.prog "veil/scalar.table" = some tblV := by
  rw [MakeChecks.laidMetH_plain _ _ _ (by kernel_rfl)] at h
  exact tableCells h
theorem enters4 (xs : Array Value) (w : World) : (callFunc 4 xs).run Tryd.prog w = .ok (.enter 4 xs) w := by
  have h1 : Tryd.f4.name ≠ "runtime.NumGoroutine" := by have := Go.Vs.Tryd.nm4; simpa using this
  obtain ⟨c, hb, _⟩ := Option.bind_eq_some_iff.1 Go.Vs.Tryd.code4
  simp [callFunc, Tryd.func4, h1, hb]
theorem own : ownKnob Tryd.prog.godebug = none := by kernel_rfl
theorem lifted4 (os : Os) (started : os.Started) (H : Type) (enc : TypeId × Value → H) :
    ReturnsInHanded {} Tryd.checked os 4 .any (fun w args => (Rows.ipaRoundsSpec.pre enc Tryd.prog Tryd.f4 [] false w args ∧ laidMetH Tryd.prog laidT w) ∧ sizedMet enc Tryd.prog Tryd.f4 (OpenSpec.ofChange Rows.ipaRoundsSpec) false w args)
      (Rows.ipaRoundsSpec.post enc Tryd.prog Tryd.f4 false true false false) := by
  refine returnsInHanded_of_change_and (C := Tryd.checked) (X := fun w _ => laidMetH Tryd.prog laidT w) (fun _ _ _ hh h => h.of_heap hh) own started (by kernel_rfl) Tryd.func4
    (ChangeSpec.witness_shaped (enc := enc) (C := Tryd.checked) (os := os) (X := fun w _ => laidMetH Tryd.prog laidT w) false (World.laidAll Tryd.prog os laidT)
      #[.agg #[.int .u64 0, .int .u64 0, .int .u64 0, .int .u64 0, .int .u64 0, .int .u64 0, .int .u64 0, .int .u64 0, .slice none 0 0, .slice none 0 0, .slice none 0 0, .slice none 0 0, .slice none 0 0, .slice none 0 0, .int .u64 0, .int .u64 0, .int .u64 0, .int .u64 0, .int .u64 0, .int .u64 0, .int .u64 0, .int .u64 0, .bool false, .slice none 0 0, .string ⟨#[]⟩, .int .i64 0]] 8 (World.laidAll_os _ _ _)
      (World.shaped_of_ZipB (by kernel_rfl) (by kernel_rfl)) (by kernel_rfl) (by kernel_rfl) (by kernel_rfl)
      (by rw [MakeChecks.laidMetH_plain _ _ _ (by kernel_rfl)]; exact laidMet_laidAll _ (by kernel_rfl) (by kernel_rfl))) ?_
  intro W base args ds gs before hval0 hW _ _ hL _
  have hval : ∀ (j : Nat) t v, Tryd.f4.params[j]? = some t → args[j]? = some v → Value.okWide Tryd.prog W .any base t v := hval0
  have hW' := hW
  obtain ⟨p, q, hA0, hV, rfl, _, _⟩ := hW
  have hA : DataW.TrodAll enc Tryd.prog W 0 (fun _ => true) true Tryd.f4.params.toList args.toList ds p := hA0
  rw [Tryd.params4] at hA hval
  obtain ⟨v0, d0, rfl, rfl, h0⟩ := trodAll_one hA
  obtain ⟨rfl, rfl⟩ := trodVars_none hV
  have hGl := globs_of (tableOf hL)
  obtain ⟨g, hh, a, b, l, r, u, Q, P, ea, eb, nG, mG, nH, mH, nA, mA, nB, mB, nL, mL, nR, mR, nU, mU, zG, zH, zA, zB, zL, zR, zU, sc, lab, N, ρ, ⟨k1, k2, k3, k4, k5, k6, k7⟩, ⟨l1, l2, l3, l4⟩, ⟨o1, o2, o3, o4, o5, o6, o7⟩, _, hsim, hcon⟩ := case_of (hval 0 26 v0 rfl rfl) h0
  have hs := hsim hGl
  have hs' : Sim GT ρ [Go.Vs.Tryd.ivb g nG zG, Go.Vs.Tryd.ivb hh nH zH, none, none, Go.Vs.Tryd.ivb l nL zL, Go.Vs.Tryd.ivb r nR zR, Go.Vs.Tryd.ivb u nU zU] W := by
    refine hs.weaken rfl fun i b hl => ⟨b, ?_, Less.refl b⟩
    unfold Live at *
    match i, hl with
    | 0, hl => exact hl
    | 1, hl => exact hl
    | 2, hl => simp at hl
    | 3, hl => simp at hl
    | 4, hl => exact hl
    | 5, hl => exact hl
    | 6, hl => exact hl
    | n + 7, hl => simp at hl
  have hv := Go.Vs.Tryd.law_rounds (G := GT) rfl g hh l r u k1 k2 k5 k6 k7 Q P ea eb nG mG nH mH nA mA nB mB nL mL nR mR nU mU zG zH zA zB zL zR zU o1 o2 o5 o6 o7 l2 l1 l3 l4 (.bool sc) (.str lab) (fun _ => rfl) (fun _ => rfl) rfl rfl N
  simp only [List.append_nil] at hW'
  have hlt : ∀ x ∈ p, x.block < W.heap.size := fun x hx => hW'.lt x hx
  refine (Go.Vs.Tryd.calls_of (vs := [v0]) (r := .bool true) enters4 ?_ hv hs' (by simp only [concs, hcon]; rfl) (fun _ => rfl)).mono fun e W' ⟨he, hb⟩ => ?_
  · intro x hx
    simp only [List.mem_cons, List.not_mem_nil, or_false] at hx
    rcases hx with rfl | rfl | rfl | rfl | rfl | rfl | rfl <;> first | rfl | exact Go.Vs.Tryd.wrB_ivb ..
  subst he
  exact ⟨_, rfl, _, _, _, [], _, [], hW', trodAll_mk1 (shut_bool Tryd.underlying4 _), trodAll_mk1 (Below.trod (show laidOutB Tryd.prog = true by kernel_rfl) (by kernel_rfl) (of_decide_eq_true (by kernel_rfl)) h0 hb hlt), rfl, hb.frame _, fun h => by cases h⟩
theorem row_holds : Rows.IpaRoundsSaid :=
  OpenClaim.holds_of_wide_leaving 4 Tryd.f4 rfl rfl rfl rfl rfl rfl rfl ⟨rfl, rfl, rfl, rfl, rfl⟩ rfl rfl rfl rfl rfl (by kernel_rfl) Tryd.func4 (by kernel_rfl)
    (of_decide_eq_true (by kernel_rfl)) (by unfold Func.isWrapper; first | (rw [if_pos (by decide +kernel)]; kernel_rfl) | (rw [if_neg (by decide +kernel)]; exact ⟨rfl, rfl⟩))
    (fun os started H enc _ => leavingWide_of_handed (lifted4 os started H enc))
theorem card_holds : Rows.IpaRoundsCardSaid :=
  holds_tied_goes .later [.data, .data, .wider, .data] true (true, "e7b2dc34eb24a75de1937d354b257480441d75086bc927952eaf1758129a8485") true true row_holds (by kernel_rfl) ipaRounds_row_tie rfl ⟨rfl, rfl⟩ (by kernel_rfl) rfl
    (fun f fn hf hfn => by
      obtain rfl : f = 4 := Option.some.inj ((show Tryd.prog.funcNamed "veil/veillaw12.IpaRounds" = some 4 by kernel_rfl).symm.trans hf) |>.symm
      obtain rfl : fn = Tryd.f4 := (Option.some.inj (Tryd.func4.symm.trans hfn)).symm
      exact ⟨by kernel_rfl, fun j t ht => by
        rw [Tryd.params4] at ht
        have hm : t ∈ [26] := by simpa using Array.mem_of_getElem? ht
        have hall : ([26].all fun u => !Tryd.prog.wantsStandIn u) = true := by kernel_rfl
        exact (show Tryd.prog.wantsStandIn t = false by simpa using List.all_eq_true.1 hall t hm)⟩)
    (by kernel_rfl)
end Go.Proofs.YtebekndmhgmfbaaDoor
