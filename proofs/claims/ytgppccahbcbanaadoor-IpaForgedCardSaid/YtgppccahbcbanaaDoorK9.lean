/- Text 9 of 11 of this claim: a machine of plain values beside the model, what the functions of the program and of the reference answer over it, and last the row and its card. -/
import Derived.Test.YtgppccahbcbanaaDoorK8
import Derived.Test.YtgppccahbcbanaaDoorK7
set_option linter.unusedVariables false
set_option linter.unusedSimpArgs false
namespace Go.Vs.Tryd
open Go.Proofs
variable {G : Nat → List V}
set_option linter.unusedSimpArgs false
attribute [local go_sem] lenO_nils lenO_sl sliceAtV Int.sub_zero List.length_append List.all_append ge_iff_le gt_iff_lt Int.natCast_nonneg Int.toNat_natCast Nat.mul_one b_and_ll b_shr_ll b_mul_ll b_add_ll b_or_ll b_shl_ll pick_ll pick_lc pick_bb driveS stopV Option.isSome_some Option.isSome_none Kind.m Kind.w Kind.g look_ro look_rw look_grow drive stepV exo expo evs fillV isNil nilKind eqV eqL optA optM sliceAtV ev kn ldc stc splice appV srcV lenV setd wantV exitV rvs rv one List.length_cons List.length_nil List.cons_append List.nil_append List.append_nil List.replicate List.getD_cons_zero List.getD_cons_succ List.set_cons_zero List.set_cons_succ List.getElem?_cons_zero List.getElem?_cons_succ List.getElem?_nil List.take_succ_cons List.take_zero List.take_nil List.drop_succ_cons List.drop_zero List.drop_nil List.all_cons List.all_nil List.any_cons List.any_nil Bool.and_true Bool.true_and Bool.and_self Option.map_some Option.map_none Option.bind_some Option.some.injEq Nat.add_zero Nat.zero_add Int.toNat_zero Int.toNat_one Int.zero_add Int.add_zero if_true if_false ite_true ite_false and_true true_and and_self ne_eq not_false_eq_true not_true_eq_false decide_true decide_false Bool.false_eq_true Bool.not_true Bool.not_false beq_self_eq_true BEq.rfl Bool.not_eq_true Nat.le_refl Int.le_refl Nat.zero_le List.foldl List.map_cons List.map_nil Prod.mk.injEq Int.cast_ofNat_Int Int.zero_le_ofNat b_add_cc b_add_cl b_add_lc b_mul_cc b_mul_cl b_mul_lc b_sub_cc b_sub_cl b_sub_lc b_and_cc b_and_cl b_and_lc b_or_cc b_or_cl b_or_lc b_xor_cc b_xor_cl b_xor_lc b_andNot_cc b_andNot_cl b_andNot_lc b_shr_cc b_shr_cl b_shr_lc b_shl_cc b_shl_cl b_shl_lc b_lss b_leq b_gtr b_geq b_add_i b_sub_i b_mul_i beq_cc beq_cl beq_lc beq_ll b_quo_i b_rem_i neg_u64 wrap_i64 driveD stepD idsAt idOf maskH_nil restore_nil restore_mask List.filterMap_nil List.filterMap_cons VOp.looks VOp.makes exA cells_agg cells_int cells_bool cells_str cells_nilp cells_ptr cells_glob cells_nils cells_sl cells_nilf cells_fn cells_nili cells_ifc known_agg known_tup known_int known_bool known_str known_nilp known_ptr known_glob known_nils known_sl known_nilf known_fn known_nili known_ifc known_unk one_agg one_tup one_int one_bool one_str one_nilp one_ptr one_glob one_nils one_sl one_nilf one_fn one_nili one_ifc asK_int asN_int asB_bool asS_str asG_agg asT_tup true_or or_true false_or or_false
attribute [local go_sem_proc] Nat.reduceAdd Nat.reduceSub Nat.reduceLeDiff Nat.reduceMul Nat.reduceLT Nat.reduceEqDiff Int.reduceLT Int.reduceLE Int.reduceAdd Int.reduceSub Int.reduceMul Int.reduceToNat reduceIte reduceCtorEq Nat.reduceBEq
section
attribute [local go_sem ↓] lc_len lc_take lc_drop lc_known lc_one lc_rens lc_cells lw_known lw_agg lw_asG scs_known scs_one scs_len lc_take_add lc_drop_add
attribute [local go_sem] lt_nat lt_natl lt_lnat lt_ll bool_tf bool_ft
set_option maxRecDepth 100000
set_option maxHeartbeats 2000000
theorem mxn_get (n : Nat) (A B : Nat → Nat) {j : Nat} (hj : j < n) : ((scs n (mxf A B j)).drop (j * 4)).take 4 = lc (B j) := by
  rw [scs_get' n _ hj, show mxf A B j j = B j from if_neg (Nat.lt_irrefl _)]
theorem mxn_set (n : Nat) (A B : Nat → Nat) {j v : Nat} (hj : j < n) (hv : A j = v) : (scs n (mxf A B j)).take (j * 4) ++ lc v ++ (scs n (mxf A B j)).drop (j * 4 + 4) = scs n (mxf A B (j + 1)) := by
  refine scs_set n _ _ hj ?_ fun x _ hx => ?_
  · unfold mxf; rw [if_pos (Nat.lt_succ_self j)]; exact hv
  · unfold mxf
    by_cases h : x < j
    · rw [if_pos h, if_pos (by omega)]
    · rw [if_neg h, if_neg (by omega)]
theorem mxn_n (n : Nat) (A B : Nat → Nat) : scs n (mxf A B n) = scs n A := scs_congr fun j hj => if_pos hj
def wnt (wh : Nat) (j : Nat) : Nat := if j = wh then 1 else 0
theorem wnt_lt (wh j : Nat) : wnt wh j < 115792089237316195423570985008687907853269984665640564039457584007913129639936 := by unfold wnt; split <;> decide
theorem wnt_set {wh : Nat} (h : wh < 3) : (scs 3 fun _ => 0).take (wh * 4) ++ lc 1 ++ (scs 3 fun _ => 0).drop (wh * 4 + 4) = scs 3 (wnt wh) :=
  scs_set 3 _ _ h (if_pos rfl) fun j _ hj => (if_neg hj).symm
def kac (x : Nat → Nat) (D : Nat → Nat → Nat) : Nat → Nat → Nat
  | 0, _ => 0
  | i + 1, y => (kac x D i y + x i * D i y % ell) % ell
theorem kac_lt (x : Nat → Nat) (D : Nat → Nat → Nat) (i y : Nat) : kac x D i y < 115792089237316195423570985008687907853269984665640564039457584007913129639936 := by
  cases i with
  | zero => exact (by decide : 0 < 115792089237316195423570985008687907853269984665640564039457584007913129639936)
  | succ i => exact mod_lt _
theorem z12 : [V.int .u64 (nl 0), .int .u64 (nl 0), .int .u64 (nl 0), .int .u64 (nl 0), .int .u64 (nl 0), .int .u64 (nl 0), .int .u64 (nl 0), .int .u64 (nl 0), .int .u64 (nl 0), .int .u64 (nl 0), .int .u64 (nl 0), .int .u64 (nl 0)] = scs 3 fun _ => 0 := rfl
theorem tr_cells (R : Nat → Nat → Nat) (c : Nat) : lc (R 0 c) ++ lc (R 1 c) ++ lc (R 2 c) = scs 3 fun j => R j c := rfl
theorem known_ (hG : G 0 = tbl) (wh : Nat) (hwh : wh < 3) (R D : Nat → Nat → Nat) (hR : ∀ i j, R i j < 115792089237316195423570985008687907853269984665640564039457584007913129639936) (hD : ∀ i j, D i j < 115792089237316195423570985008687907853269984665640564039457584007913129639936) (T : Nat) (hT : 0 < T) (hT2 : T < 1000)
    (hn : ∀ x, Go.VsP.Sol (fun c j => Go.VsP.ph (aug (fun c j => R j c) (wnt wh) c j)) 0 x → x 0 = 0 ∧ x 1 = 0 ∧ x 2 = 0) {Q : V → Heap → Prop}
    (hQ : ∀ x : Nat → Nat, (∀ j, x j < 115792089237316195423570985008687907853269984665640564039457584007913129639936) → Go.VsP.Sol (fun c j => Go.VsP.ph (aug (fun c j => R j c) (wnt wh) c j)) 1 (fun j => Go.VsP.ph (x j)) → Q (.sl 9 0 T (.exact T)) [none, none, none, none, none, none, none, none, none, some ⟨.rw, scs T (kac x D 3)⟩]) :
    VCall Tryd.prog G 23 [.int .i64 (wh : Nat), .ptr 0 0, .ptr 1 0] [some ⟨.ro, [.sl 2 0 3 (.exact 3), .sl 3 0 3 (.exact 3), .sl 4 0 3 (.exact 3)]⟩, some ⟨.ro, [.sl 5 0 T (.grow 4), .sl 6 0 T (.grow 4), .sl 7 0 T (.grow 4), .sl 8 0 T (.grow 4)]⟩, some ⟨.ro, scs 3 (R 0)⟩, some ⟨.ro, scs 3 (R 1)⟩, some ⟨.ro, scs 3 (R 2)⟩, some ⟨.ro, scs T (D 0)⟩, some ⟨.ro, scs T (D 1)⟩, some ⟨.ro, scs T (D 2)⟩, some ⟨.ro, scs T (D 3)⟩] Q := by
  have w1 : IntKind.i64.wrap 1 = 1 := by decide
  have w2 : IntKind.i64.wrap 2 = 2 := by decide
  have w3 : IntKind.i64.wrap 3 = 3 := by decide
  have h3 : ((wh : Int) < 3) = True := eq_true (by omega)
  have in1 : (wh * 4 ≤ 8) = True := eq_true (by omega)
  have st := wnt_set hwh
  refine vcall_body Tryd.func23 nm23 code23 nt23 ?_
  refine run_driveS 80 ?_
  simp only [go_sem, v23, v23_0, v23_1]
  refine run_driveS 80 ?_
  simp only [go_sem, v23_2, List.flatten_cons, List.flatten_nil, z12]
  refine run_driveS 80 ?_
  simp only [go_sem, v23_3, h3]
  refine run_call' rfl ?_
  simp only [go_sem, calV]
  refine int' 1 (by decide) ?_
  refine run_driveS 80 ?_
  simp only [go_sem, v23_4, v23_11, h3, in1, st, z12]
  refine run_loop_eq v23_10.eq_1 ?_
  refine run_driveS 80 ?_
  simp only [go_sem, v23_5, v23_8, v23_6]
  refine run_driveS 80 ?_
  simp only [go_sem]
  refine run_drw (by kernel_rfl) ?_
  refine drun_drive 40 (p := (_, _)) ?_
  simp only [go_sem, v23_7, scs3_0, scs3_1, scs3_2, bq8, bd8, bd12, tr_cells R 0, restore, Option.join_some, maskH, List.mapIdx_cons, List.mapIdx_nil, List.contains_cons, List.contains_nil, Bool.or_false, Bool.or_true, Bool.false_or, Bool.true_or, Nat.reduceBEq]
  refine drun_end ?_
  refine run_driveS 80 ?_
  simp only [go_sem, v23_9, w1]
  refine run_loop_eq v23_10.eq_1 ?_
  refine run_driveS 80 ?_
  simp only [go_sem, v23_5, v23_8, v23_6]
  refine run_driveS 80 ?_
  simp only [go_sem]
  refine run_drw (by kernel_rfl) ?_
  refine drun_drive 40 (p := (_, _)) ?_
  simp only [go_sem, v23_7, scs3_0, scs3_1, scs3_2, bq8, bd8, bd12, tr_cells R 1, restore, Option.join_some, maskH, List.mapIdx_cons, List.mapIdx_nil, List.contains_cons, List.contains_nil, Bool.or_false, Bool.or_true, Bool.false_or, Bool.true_or, Nat.reduceBEq]
  refine drun_end ?_
  refine run_driveS 80 ?_
  simp only [go_sem, v23_9, w2]
  refine run_loop_eq v23_10.eq_1 ?_
  refine run_driveS 80 ?_
  simp only [go_sem, v23_5, v23_8, v23_6]
  refine run_driveS 80 ?_
  simp only [go_sem]
  refine run_drw (by kernel_rfl) ?_
  refine drun_drive 40 (p := (_, _)) ?_
  simp only [go_sem, v23_7, scs3_0, scs3_1, scs3_2, bq8, bd8, bd12, tr_cells R 2, restore, Option.join_some, maskH, List.mapIdx_cons, List.mapIdx_nil, List.contains_cons, List.contains_nil, Bool.or_false, Bool.or_true, Bool.false_or, Bool.true_or, Nat.reduceBEq]
  refine drun_end ?_
  refine run_driveS 80 ?_
  simp only [go_sem, v23_9, w3]
  refine run_loop_eq v23_10.eq_1 ?_
  refine run_driveS 80 ?_
  simp only [go_sem, v23_5]
  refine run_exit rfl ?_
  refine run_driveS 80 ?_
  simp only [go_sem, v23_12]
  refine run_call' rfl ?_
  simp only [go_sem, calV]
  refine vcall_at (solve_ hG (fun c j => R j c) (wnt wh) (fun c j => hR j c) (wnt_lt wh) (.grow 1) hn (Q := fun v h => ∃ x : Nat → Nat, (∀ j, x j < 115792089237316195423570985008687907853269984665640564039457584007913129639936) ∧ Go.VsP.Sol (fun c j => Go.VsP.ph (aug (fun c j => R j c) (wnt wh) c j)) 1 (fun j => Go.VsP.ph (x j)) ∧ v = .tup [.sl 5 0 3 (.grow 4), .int .i64 0] ∧ h = [none, none, none, none, none, some ⟨.grow, scs 3 x⟩]) (fun x a b => ⟨x, a, b, rfl, rfl⟩)) [18, 10, 13, 16, 9] (by simp) ?_ (uniq_nodup' (by decide)) ?_ ?_
  · exact hfit_cons rfl (jb_ro rfl) (hfit_cons rfl (jb_ro (scs_rens ..)) (hfit_cons rfl (jb_ro (scs_rens ..)) (hfit_cons rfl (jb_ro (scs_rens ..)) (hfit_cons rfl (jb_ro (scs_rens ..)) hfit_nil))))
  · simp only [rens, ren, gmap]
  rintro v h' ⟨x, hx, hsol, rfl, rfl⟩
  rw [puts_ro (by simp [wrB]) rfl (by simp)]
  simp only [List.map_cons, List.map_nil, Option.map_some, Option.map_none, renB, scs_rens, rens, ren, gmap, List.drop_succ_cons, List.drop_zero, List.cons_append, List.nil_append, List.length_cons, List.length_nil, Nat.reduceAdd]
  have t2 : ((32 : Int) * (T : Int) ≤ 281474976710656) = True := eq_true (by omega)
  have t3 : ((T : Int) ≤ 9223372036854775807) = True := eq_true (by omega)
  have tz := scs_zero T
  refine run_driveS 80 ?_
  simp only [go_sem]
  refine run_driveS 80 ?_
  simp only [go_sem, v23_13, t2, t3, tz]
  refine run_driveS 80 ?_
  simp only [go_sem, v23_14, v23_28]
  refine run_rename [0, 1, 2, 3, 4, 5, 6, 7, 8, 19, 20] (st' := ⟨[.unk, .unk, .ptr 1 0] ++ List.replicate 7 .unk ++ [.sl 10 0 T (.exact T)] ++ List.replicate 42 .unk ++ [.sl 9 0 3 (.grow 4), .int .i64 (3 : Nat), .int .i64 (0 : Nat)] ++ List.replicate 27 .unk, [some ⟨.ro, [.sl 2 0 3 (.exact 3), .sl 3 0 3 (.exact 3), .sl 4 0 3 (.exact 3)]⟩, some ⟨.ro, [.sl 5 0 T (.grow 4), .sl 6 0 T (.grow 4), .sl 7 0 T (.grow 4), .sl 8 0 T (.grow 4)]⟩, some ⟨.ro, scs 3 (R 0)⟩, some ⟨.ro, scs 3 (R 1)⟩, some ⟨.ro, scs 3 (R 2)⟩, some ⟨.ro, scs T (D 0)⟩, some ⟨.ro, scs T (D 1)⟩, some ⟨.ro, scs T (D 2)⟩, some ⟨.ro, scs T (D 3)⟩, some ⟨.grow, scs 3 x⟩, some ⟨.rw, scs T (kac x D 0)⟩]⟩) rfl (by simp) ?_ (uniq_nodup' (by decide)) ?_ ?_
  · exact hfit_cons rfl (jb_g rfl) (hfit_cons rfl (jb_g rfl) (hfit_cons rfl (jb_g (scs_rens ..)) (hfit_cons rfl (jb_g (scs_rens ..)) (hfit_cons rfl (jb_g (scs_rens ..)) (hfit_cons rfl (jb_g (scs_rens ..)) (hfit_cons rfl (jb_g (scs_rens ..)) (hfit_cons rfl (jb_g (scs_rens ..)) (hfit_cons rfl (jb_g (scs_rens ..)) (hfit_cons rfl (jb_g (scs_rens ..)) (hfit_cons rfl (jb_g (scs_rens ..)) hfit_nil))))))))))
  · simp only [go_sem, fit, ren, gmap, true_or, or_true]
  refine run_loop_eq v23_27.eq_1 ?_
  refine run_driveS 80 ?_
  simp only [go_sem, v23_15, v23_25, v23_16, scs3_0]
  refine run_driveS 80 ?_
  simp only [go_sem, v23_17, v23_24]
  refine run_rename [0, 1, 2, 3, 4, 5, 6, 7, 8, 9, 10, 11] (st' := ⟨[.unk, .unk, .ptr 1 0] ++ List.replicate 7 .unk ++ [.sl 10 0 T (.exact T), .unk, .ptr 11 0] ++ List.replicate 40 .unk ++ [.sl 9 0 3 (.grow 4), .int .i64 (3 : Nat), .int .i64 (0 : Nat)] ++ List.replicate 6 .unk ++ [.sl 5 0 T (.grow 4), .int .i64 (T : Nat), .int .i64 (0 : Nat)] ++ List.replicate 18 .unk, [some ⟨.ro, [.sl 2 0 3 (.exact 3), .sl 3 0 3 (.exact 3), .sl 4 0 3 (.exact 3)]⟩, some ⟨.ro, [.sl 5 0 T (.grow 4), .sl 6 0 T (.grow 4), .sl 7 0 T (.grow 4), .sl 8 0 T (.grow 4)]⟩, some ⟨.ro, scs 3 (R 0)⟩, some ⟨.ro, scs 3 (R 1)⟩, some ⟨.ro, scs 3 (R 2)⟩, some ⟨.ro, scs T (D 0)⟩, some ⟨.ro, scs T (D 1)⟩, some ⟨.ro, scs T (D 2)⟩, some ⟨.ro, scs T (D 3)⟩, some ⟨.grow, scs 3 x⟩, some ⟨.rw, scs T (mxf (kac x D 1) (kac x D 0) 0)⟩, some ⟨.rw, lc (x 0)⟩]⟩) rfl (by simp) ?_ (uniq_nodup' (by decide)) ?_ (run_for (fun j => ⟨[.unk, .unk, .ptr 1 0] ++ List.replicate 7 .unk ++ [.sl 10 0 T (.exact T), .unk, .ptr 11 0] ++ List.replicate 40 .unk ++ [.sl 9 0 3 (.grow 4), .int .i64 (3 : Nat), .int .i64 (0 : Nat)] ++ List.replicate 6 .unk ++ [.sl 5 0 T (.grow 4), .int .i64 (T : Nat), .int .i64 (j : Nat)] ++ List.replicate 18 .unk, [some ⟨.ro, [.sl 2 0 3 (.exact 3), .sl 3 0 3 (.exact 3), .sl 4 0 3 (.exact 3)]⟩, some ⟨.ro, [.sl 5 0 T (.grow 4), .sl 6 0 T (.grow 4), .sl 7 0 T (.grow 4), .sl 8 0 T (.grow 4)]⟩, some ⟨.ro, scs 3 (R 0)⟩, some ⟨.ro, scs 3 (R 1)⟩, some ⟨.ro, scs 3 (R 2)⟩, some ⟨.ro, scs T (D 0)⟩, some ⟨.ro, scs T (D 1)⟩, some ⟨.ro, scs T (D 2)⟩, some ⟨.ro, scs T (D 3)⟩, some ⟨.grow, scs 3 x⟩, some ⟨.rw, scs T (mxf (kac x D 1) (kac x D 0) j)⟩, some ⟨.rw, lc (x 0)⟩]⟩) T (fun j hj jh => ?_) ?_)
  · rw [mxf_0]
    exact hfit_cons rfl (jb_g rfl) (hfit_cons rfl (jb_g rfl) (hfit_cons rfl (jb_g (scs_rens ..)) (hfit_cons rfl (jb_g (scs_rens ..)) (hfit_cons rfl (jb_g (scs_rens ..)) (hfit_cons rfl (jb_g (scs_rens ..)) (hfit_cons rfl (jb_g (scs_rens ..)) (hfit_cons rfl (jb_g (scs_rens ..)) (hfit_cons rfl (jb_g (scs_rens ..)) (hfit_cons rfl (jb_g (scs_rens ..)) (hfit_cons rfl (jb_g (scs_rens ..)) (hfit_cons rfl (jb_g (lc_rens ..)) hfit_nil)))))))))))
  · simp only [go_sem, fit, ren, gmap, true_or, or_true]
  · have j0 : ((j : Int) < (T : Int)) = True := eq_true (by omega)
    have hw : IntKind.i64.wrap ((j : Int) + 1) = ((j + 1 : Nat) : Int) := by rw [wrap_i64 (by omega) (by omega)]; omega
    have g1 := mxn_get T (kac x D 1) (kac x D 0) hj
    have g2 := scs_get' T (D 0) hj
    have in2 : (j * 4 + 4 ≤ T * 4) = True := eq_true (by omega)
    have st := mxn_set T (kac x D 1) (kac x D 0) hj (v := (kac x D 0 j + x 0 * D 0 j % ell) % ell) rfl
    refine run_loop_eq v23_23.eq_1 ?_
    refine run_driveS 80 ?_
    simp only [go_sem, v23_18, v23_21, v23_19, j0, g2]
    refine run_drw (by kernel_rfl) ?_
    refine drun_drive 40 (p := (_, _)) ?_
    simp only [go_sem, v23_20, j0, g1, g2]
    refine drun_call' ?_
    simp only [go_sem, calV]
    refine mul' hG _ _ (hx _) (hD _ _) ?_
    refine drun_drive 40 (p := (_, _)) ?_
    simp only [go_sem]
    refine drun_call' ?_
    simp only [go_sem, calV]
    refine add_ hG _ _ (kac_lt ..) (mod_lt _) ?_
    refine drun_drive 40 (p := (_, _)) ?_
    simp only [go_sem, j0, in2, st]
    refine drun_end ?_
    refine run_driveS 80 ?_
    simp only [go_sem, v23_22, hw]
    refine run_rename [0, 1, 2, 3, 4, 5, 6, 7, 8, 9, 10, 11] rfl (by simp) ?_ (uniq_nodup' (by decide)) ?_ jh
    · exact hfit_cons rfl (jb_g rfl) (hfit_cons rfl (jb_g rfl) (hfit_cons rfl (jb_g (scs_rens ..)) (hfit_cons rfl (jb_g (scs_rens ..)) (hfit_cons rfl (jb_g (scs_rens ..)) (hfit_cons rfl (jb_g (scs_rens ..)) (hfit_cons rfl (jb_g (scs_rens ..)) (hfit_cons rfl (jb_g (scs_rens ..)) (hfit_cons rfl (jb_g (scs_rens ..)) (hfit_cons rfl (jb_g (scs_rens ..)) (hfit_cons rfl (jb_g (scs_rens ..)) (hfit_cons rfl (jb_g (lc_rens ..)) hfit_nil)))))))))))
    · simp only [go_sem, fit, ren, gmap, true_or, or_true]
  · have h1 : ((T : Int) < (T : Int)) = False := eq_false (by omega)
    rw [mxn_n]
    refine run_loop_eq v23_23.eq_1 ?_
    refine run_driveS 80 ?_
    simp only [go_sem, v23_18, h1]
    refine run_exit rfl ?_
    refine run_driveS 80 ?_
    simp only [go_sem, v23_26, w1]
    refine run_rename [0, 1, 2, 3, 4, 5, 6, 7, 8, 9, 10] (st' := ⟨[.unk, .unk, .ptr 1 0] ++ List.replicate 7 .unk ++ [.sl 10 0 T (.exact T)] ++ List.replicate 42 .unk ++ [.sl 9 0 3 (.grow 4), .int .i64 (3 : Nat), .int .i64 (1 : Nat)] ++ List.replicate 27 .unk, [some ⟨.ro, [.sl 2 0 3 (.exact 3), .sl 3 0 3 (.exact 3), .sl 4 0 3 (.exact 3)]⟩, some ⟨.ro, [.sl 5 0 T (.grow 4), .sl 6 0 T (.grow 4), .sl 7 0 T (.grow 4), .sl 8 0 T (.grow 4)]⟩, some ⟨.ro, scs 3 (R 0)⟩, some ⟨.ro, scs 3 (R 1)⟩, some ⟨.ro, scs 3 (R 2)⟩, some ⟨.ro, scs T (D 0)⟩, some ⟨.ro, scs T (D 1)⟩, some ⟨.ro, scs T (D 2)⟩, some ⟨.ro, scs T (D 3)⟩, some ⟨.grow, scs 3 x⟩, some ⟨.rw, scs T (kac x D 1)⟩]⟩) rfl (by simp) ?_ (uniq_nodup' (by decide)) ?_ ?_
    · exact hfit_cons rfl (jb_g rfl) (hfit_cons rfl (jb_g rfl) (hfit_cons rfl (jb_g (scs_rens ..)) (hfit_cons rfl (jb_g (scs_rens ..)) (hfit_cons rfl (jb_g (scs_rens ..)) (hfit_cons rfl (jb_g (scs_rens ..)) (hfit_cons rfl (jb_g (scs_rens ..)) (hfit_cons rfl (jb_g (scs_rens ..)) (hfit_cons rfl (jb_g (scs_rens ..)) (hfit_cons rfl (jb_g (scs_rens ..)) (hfit_cons rfl (jb_g (scs_rens ..)) hfit_nil))))))))))
    · simp only [go_sem, fit, ren, gmap, true_or, or_true]
    refine run_loop_eq v23_27.eq_1 ?_
    refine run_driveS 80 ?_
    simp only [go_sem, v23_15, v23_25, v23_16, scs3_1]
    refine run_driveS 80 ?_
    simp only [go_sem, v23_17, v23_24]
    refine run_rename [0, 1, 2, 3, 4, 5, 6, 7, 8, 9, 10, 11] (st' := ⟨[.unk, .unk, .ptr 1 0] ++ List.replicate 7 .unk ++ [.sl 10 0 T (.exact T), .unk, .ptr 11 0] ++ List.replicate 40 .unk ++ [.sl 9 0 3 (.grow 4), .int .i64 (3 : Nat), .int .i64 (1 : Nat)] ++ List.replicate 6 .unk ++ [.sl 6 0 T (.grow 4), .int .i64 (T : Nat), .int .i64 (0 : Nat)] ++ List.replicate 18 .unk, [some ⟨.ro, [.sl 2 0 3 (.exact 3), .sl 3 0 3 (.exact 3), .sl 4 0 3 (.exact 3)]⟩, some ⟨.ro, [.sl 5 0 T (.grow 4), .sl 6 0 T (.grow 4), .sl 7 0 T (.grow 4), .sl 8 0 T (.grow 4)]⟩, some ⟨.ro, scs 3 (R 0)⟩, some ⟨.ro, scs 3 (R 1)⟩, some ⟨.ro, scs 3 (R 2)⟩, some ⟨.ro, scs T (D 0)⟩, some ⟨.ro, scs T (D 1)⟩, some ⟨.ro, scs T (D 2)⟩, some ⟨.ro, scs T (D 3)⟩, some ⟨.grow, scs 3 x⟩, some ⟨.rw, scs T (mxf (kac x D 2) (kac x D 1) 0)⟩, some ⟨.rw, lc (x 1)⟩]⟩) rfl (by simp) ?_ (uniq_nodup' (by decide)) ?_ (run_for (fun j => ⟨[.unk, .unk, .ptr 1 0] ++ List.replicate 7 .unk ++ [.sl 10 0 T (.exact T), .unk, .ptr 11 0] ++ List.replicate 40 .unk ++ [.sl 9 0 3 (.grow 4), .int .i64 (3 : Nat), .int .i64 (1 : Nat)] ++ List.replicate 6 .unk ++ [.sl 6 0 T (.grow 4), .int .i64 (T : Nat), .int .i64 (j : Nat)] ++ List.replicate 18 .unk, [some ⟨.ro, [.sl 2 0 3 (.exact 3), .sl 3 0 3 (.exact 3), .sl 4 0 3 (.exact 3)]⟩, some ⟨.ro, [.sl 5 0 T (.grow 4), .sl 6 0 T (.grow 4), .sl 7 0 T (.grow 4), .sl 8 0 T (.grow 4)]⟩, some ⟨.ro, scs 3 (R 0)⟩, some ⟨.ro, scs 3 (R 1)⟩, some ⟨.ro, scs 3 (R 2)⟩, some ⟨.ro, scs T (D 0)⟩, some ⟨.ro, scs T (D 1)⟩, some ⟨.ro, scs T (D 2)⟩, some ⟨.ro, scs T (D 3)⟩, some ⟨.grow, scs 3 x⟩, some ⟨.rw, scs T (mxf (kac x D 2) (kac x D 1) j)⟩, some ⟨.rw, lc (x 1)⟩]⟩) T (fun j hj jh => ?_) ?_)
    · rw [mxf_0]
      exact hfit_cons rfl (jb_g rfl) (hfit_cons rfl (jb_g rfl) (hfit_cons rfl (jb_g (scs_rens ..)) (hfit_cons rfl (jb_g (scs_rens ..)) (hfit_cons rfl (jb_g (scs_rens ..)) (hfit_cons rfl (jb_g (scs_rens ..)) (hfit_cons rfl (jb_g (scs_rens ..)) (hfit_cons rfl (jb_g (scs_rens ..)) (hfit_cons rfl (jb_g (scs_rens ..)) (hfit_cons rfl (jb_g (scs_rens ..)) (hfit_cons rfl (jb_g (scs_rens ..)) (hfit_cons rfl (jb_g (lc_rens ..)) hfit_nil)))))))))))
    · simp only [go_sem, fit, ren, gmap, true_or, or_true]
    · have j0 : ((j : Int) < (T : Int)) = True := eq_true (by omega)
      have hw : IntKind.i64.wrap ((j : Int) + 1) = ((j + 1 : Nat) : Int) := by rw [wrap_i64 (by omega) (by omega)]; omega
      have g1 := mxn_get T (kac x D 2) (kac x D 1) hj
      have g2 := scs_get' T (D 1) hj
      have in2 : (j * 4 + 4 ≤ T * 4) = True := eq_true (by omega)
      have st := mxn_set T (kac x D 2) (kac x D 1) hj (v := (kac x D 1 j + x 1 * D 1 j % ell) % ell) rfl
      refine run_loop_eq v23_23.eq_1 ?_
      refine run_driveS 80 ?_
      simp only [go_sem, v23_18, v23_21, v23_19, j0, g2]
      refine run_drw (by kernel_rfl) ?_
      refine drun_drive 40 (p := (_, _)) ?_
      simp only [go_sem, v23_20, j0, g1, g2]
      refine drun_call' ?_
      simp only [go_sem, calV]
      refine mul' hG _ _ (hx _) (hD _ _) ?_
      refine drun_drive 40 (p := (_, _)) ?_
      simp only [go_sem]
      refine drun_call' ?_
      simp only [go_sem, calV]
      refine add_ hG _ _ (kac_lt ..) (mod_lt _) ?_
      refine drun_drive 40 (p := (_, _)) ?_
      simp only [go_sem, j0, in2, st]
      refine drun_end ?_
      refine run_driveS 80 ?_
      simp only [go_sem, v23_22, hw]
      refine run_rename [0, 1, 2, 3, 4, 5, 6, 7, 8, 9, 10, 11] rfl (by simp) ?_ (uniq_nodup' (by decide)) ?_ jh
      · exact hfit_cons rfl (jb_g rfl) (hfit_cons rfl (jb_g rfl) (hfit_cons rfl (jb_g (scs_rens ..)) (hfit_cons rfl (jb_g (scs_rens ..)) (hfit_cons rfl (jb_g (scs_rens ..)) (hfit_cons rfl (jb_g (scs_rens ..)) (hfit_cons rfl (jb_g (scs_rens ..)) (hfit_cons rfl (jb_g (scs_rens ..)) (hfit_cons rfl (jb_g (scs_rens ..)) (hfit_cons rfl (jb_g (scs_rens ..)) (hfit_cons rfl (jb_g (scs_rens ..)) (hfit_cons rfl (jb_g (lc_rens ..)) hfit_nil)))))))))))
      · simp only [go_sem, fit, ren, gmap, true_or, or_true]
    · have h1 : ((T : Int) < (T : Int)) = False := eq_false (by omega)
      rw [mxn_n]
      refine run_loop_eq v23_23.eq_1 ?_
      refine run_driveS 80 ?_
      simp only [go_sem, v23_18, h1]
      refine run_exit rfl ?_
      refine run_driveS 80 ?_
      simp only [go_sem, v23_26, w2]
      refine run_rename [0, 1, 2, 3, 4, 5, 6, 7, 8, 9, 10] (st' := ⟨[.unk, .unk, .ptr 1 0] ++ List.replicate 7 .unk ++ [.sl 10 0 T (.exact T)] ++ List.replicate 42 .unk ++ [.sl 9 0 3 (.grow 4), .int .i64 (3 : Nat), .int .i64 (2 : Nat)] ++ List.replicate 27 .unk, [some ⟨.ro, [.sl 2 0 3 (.exact 3), .sl 3 0 3 (.exact 3), .sl 4 0 3 (.exact 3)]⟩, some ⟨.ro, [.sl 5 0 T (.grow 4), .sl 6 0 T (.grow 4), .sl 7 0 T (.grow 4), .sl 8 0 T (.grow 4)]⟩, some ⟨.ro, scs 3 (R 0)⟩, some ⟨.ro, scs 3 (R 1)⟩, some ⟨.ro, scs 3 (R 2)⟩, some ⟨.ro, scs T (D 0)⟩, some ⟨.ro, scs T (D 1)⟩, some ⟨.ro, scs T (D 2)⟩, some ⟨.ro, scs T (D 3)⟩, some ⟨.grow, scs 3 x⟩, some ⟨.rw, scs T (kac x D 2)⟩]⟩) rfl (by simp) ?_ (uniq_nodup' (by decide)) ?_ ?_
      · exact hfit_cons rfl (jb_g rfl) (hfit_cons rfl (jb_g rfl) (hfit_cons rfl (jb_g (scs_rens ..)) (hfit_cons rfl (jb_g (scs_rens ..)) (hfit_cons rfl (jb_g (scs_rens ..)) (hfit_cons rfl (jb_g (scs_rens ..)) (hfit_cons rfl (jb_g (scs_rens ..)) (hfit_cons rfl (jb_g (scs_rens ..)) (hfit_cons rfl (jb_g (scs_rens ..)) (hfit_cons rfl (jb_g (scs_rens ..)) (hfit_cons rfl (jb_g (scs_rens ..)) hfit_nil))))))))))
      · simp only [go_sem, fit, ren, gmap, true_or, or_true]
      refine run_loop_eq v23_27.eq_1 ?_
      refine run_driveS 80 ?_
      simp only [go_sem, v23_15, v23_25, v23_16, scs3_2]
      refine run_driveS 80 ?_
      simp only [go_sem, v23_17, v23_24]
      refine run_rename [0, 1, 2, 3, 4, 5, 6, 7, 8, 9, 10, 11] (st' := ⟨[.unk, .unk, .ptr 1 0] ++ List.replicate 7 .unk ++ [.sl 10 0 T (.exact T), .unk, .ptr 11 0] ++ List.replicate 40 .unk ++ [.sl 9 0 3 (.grow 4), .int .i64 (3 : Nat), .int .i64 (2 : Nat)] ++ List.replicate 6 .unk ++ [.sl 7 0 T (.grow 4), .int .i64 (T : Nat), .int .i64 (0 : Nat)] ++ List.replicate 18 .unk, [some ⟨.ro, [.sl 2 0 3 (.exact 3), .sl 3 0 3 (.exact 3), .sl 4 0 3 (.exact 3)]⟩, some ⟨.ro, [.sl 5 0 T (.grow 4), .sl 6 0 T (.grow 4), .sl 7 0 T (.grow 4), .sl 8 0 T (.grow 4)]⟩, some ⟨.ro, scs 3 (R 0)⟩, some ⟨.ro, scs 3 (R 1)⟩, some ⟨.ro, scs 3 (R 2)⟩, some ⟨.ro, scs T (D 0)⟩, some ⟨.ro, scs T (D 1)⟩, some ⟨.ro, scs T (D 2)⟩, some ⟨.ro, scs T (D 3)⟩, some ⟨.grow, scs 3 x⟩, some ⟨.rw, scs T (mxf (kac x D 3) (kac x D 2) 0)⟩, some ⟨.rw, lc (x 2)⟩]⟩) rfl (by simp) ?_ (uniq_nodup' (by decide)) ?_ (run_for (fun j => ⟨[.unk, .unk, .ptr 1 0] ++ List.replicate 7 .unk ++ [.sl 10 0 T (.exact T), .unk, .ptr 11 0] ++ List.replicate 40 .unk ++ [.sl 9 0 3 (.grow 4), .int .i64 (3 : Nat), .int .i64 (2 : Nat)] ++ List.replicate 6 .unk ++ [.sl 7 0 T (.grow 4), .int .i64 (T : Nat), .int .i64 (j : Nat)] ++ List.replicate 18 .unk, [some ⟨.ro, [.sl 2 0 3 (.exact 3), .sl 3 0 3 (.exact 3), .sl 4 0 3 (.exact 3)]⟩, some ⟨.ro, [.sl 5 0 T (.grow 4), .sl 6 0 T (.grow 4), .sl 7 0 T (.grow 4), .sl 8 0 T (.grow 4)]⟩, some ⟨.ro, scs 3 (R 0)⟩, some ⟨.ro, scs 3 (R 1)⟩, some ⟨.ro, scs 3 (R 2)⟩, some ⟨.ro, scs T (D 0)⟩, some ⟨.ro, scs T (D 1)⟩, some ⟨.ro, scs T (D 2)⟩, some ⟨.ro, scs T (D 3)⟩, some ⟨.grow, scs 3 x⟩, some ⟨.rw, scs T (mxf (kac x D 3) (kac x D 2) j)⟩, some ⟨.rw, lc (x 2)⟩]⟩) T (fun j hj jh => ?_) ?_)
      · rw [mxf_0]
        exact hfit_cons rfl (jb_g rfl) (hfit_cons rfl (jb_g rfl) (hfit_cons rfl (jb_g (scs_rens ..)) (hfit_cons rfl (jb_g (scs_rens ..)) (hfit_cons rfl (jb_g (scs_rens ..)) (hfit_cons rfl (jb_g (scs_rens ..)) (hfit_cons rfl (jb_g (scs_rens ..)) (hfit_cons rfl (jb_g (scs_rens ..)) (hfit_cons rfl (jb_g (scs_rens ..)) (hfit_cons rfl (jb_g (scs_rens ..)) (hfit_cons rfl (jb_g (scs_rens ..)) (hfit_cons rfl (jb_g (lc_rens ..)) hfit_nil)))))))))))
      · simp only [go_sem, fit, ren, gmap, true_or, or_true]
      · have j0 : ((j : Int) < (T : Int)) = True := eq_true (by omega)
        have hw : IntKind.i64.wrap ((j : Int) + 1) = ((j + 1 : Nat) : Int) := by rw [wrap_i64 (by omega) (by omega)]; omega
        have g1 := mxn_get T (kac x D 3) (kac x D 2) hj
        have g2 := scs_get' T (D 2) hj
        have in2 : (j * 4 + 4 ≤ T * 4) = True := eq_true (by omega)
        have st := mxn_set T (kac x D 3) (kac x D 2) hj (v := (kac x D 2 j + x 2 * D 2 j % ell) % ell) rfl
        refine run_loop_eq v23_23.eq_1 ?_
        refine run_driveS 80 ?_
        simp only [go_sem, v23_18, v23_21, v23_19, j0, g2]
        refine run_drw (by kernel_rfl) ?_
        refine drun_drive 40 (p := (_, _)) ?_
        simp only [go_sem, v23_20, j0, g1, g2]
        refine drun_call' ?_
        simp only [go_sem, calV]
        refine mul' hG _ _ (hx _) (hD _ _) ?_
        refine drun_drive 40 (p := (_, _)) ?_
        simp only [go_sem]
        refine drun_call' ?_
        simp only [go_sem, calV]
        refine add_ hG _ _ (kac_lt ..) (mod_lt _) ?_
        refine drun_drive 40 (p := (_, _)) ?_
        simp only [go_sem, j0, in2, st]
        refine drun_end ?_
        refine run_driveS 80 ?_
        simp only [go_sem, v23_22, hw]
        refine run_rename [0, 1, 2, 3, 4, 5, 6, 7, 8, 9, 10, 11] rfl (by simp) ?_ (uniq_nodup' (by decide)) ?_ jh
        · exact hfit_cons rfl (jb_g rfl) (hfit_cons rfl (jb_g rfl) (hfit_cons rfl (jb_g (scs_rens ..)) (hfit_cons rfl (jb_g (scs_rens ..)) (hfit_cons rfl (jb_g (scs_rens ..)) (hfit_cons rfl (jb_g (scs_rens ..)) (hfit_cons rfl (jb_g (scs_rens ..)) (hfit_cons rfl (jb_g (scs_rens ..)) (hfit_cons rfl (jb_g (scs_rens ..)) (hfit_cons rfl (jb_g (scs_rens ..)) (hfit_cons rfl (jb_g (scs_rens ..)) (hfit_cons rfl (jb_g (lc_rens ..)) hfit_nil)))))))))))
        · simp only [go_sem, fit, ren, gmap, true_or, or_true]
      · have h1 : ((T : Int) < (T : Int)) = False := eq_false (by omega)
        rw [mxn_n]
        refine run_loop_eq v23_23.eq_1 ?_
        refine run_driveS 80 ?_
        simp only [go_sem, v23_18, h1]
        refine run_exit rfl ?_
        refine run_driveS 80 ?_
        simp only [go_sem, v23_26, w3]
        refine run_loop_eq v23_27.eq_1 ?_
        refine run_driveS 80 ?_
        simp only [go_sem, v23_15]
        refine run_exit rfl ?_
        refine run_driveS 80 ?_
        simp only [go_sem, v23_29]
        exact run_ret_drop Tryd.func23 res23 [0, 1, 2, 3, 4, 5, 6, 7, 8, 10] (.sl 9 0 T (.exact T)) [none, none, none, none, none, none, none, none, none, some ⟨.rw, scs T (kac x D 3)⟩] rfl (by simp) (hfit_cons_none (hfit_cons_none (hfit_cons_none (hfit_cons_none (hfit_cons_none (hfit_cons_none (hfit_cons_none (hfit_cons_none (hfit_cons_none (hfit_cons rfl (jb_g (scs_rens ..)) hfit_nil)))))))))) (uniq_nodup' (by decide)) (by simp only [go_sem, rr23, ren, gmap]) (hQ x hx hsol)
end
section
attribute [local go_sem ↓] lc_len lc_take lc_drop lc_known lc_one lc_rens lc_cells lw_known lw_agg lw_asG scs_known scs_one scs_len lc_take_add lc_drop_add
attribute [local go_sem] lt_nat lt_natl lt_lnat lt_ll bool_tf bool_ft
set_option maxRecDepth 100000
set_option maxHeartbeats 2000000
theorem m_sameL : methV Tryd.prog 34 "Same" = some 12 := by kernel_rfl
theorem line_same (hG : G 0 = tbl) (A B : Nat) (hA : A < 115792089237316195423570985008687907853269984665640564039457584007913129639936) (hB : B < 115792089237316195423570985008687907853269984665640564039457584007913129639936) {h : Heap} {R : V → Heap → Prop} (hQ : R (.bool (decide (A % ell = B % ell))) h) : VCall Tryd.prog G 12 [lw A, lw B] h R := by
  refine vcall_plain (Q := fun v => v = .bool (decide (A % ell = B % ell))) ?_ (fun g => by simp only [rens, lw_plain, ew_plain, ren]) (fun v g hv => by subst hv; exact rfl) (fun v hv => by subst hv; exact hQ)
  refine vcall_body Tryd.func12 nm12 code12 nt12 ?_
  refine run_driveS 80 ?_
  simp only [go_sem, v12, v12_0, v12_1]
  refine run_call' rfl ?_
  simp only [go_sem, calV]
  refine same_ hG _ _ hA hB ?_
  refine run_driveS 80 ?_
  simp only [go_sem]
  refine run_ret_drop Tryd.func12 res12 [] (.bool (decide (A % ell = B % ell))) [] rfl (by simp) trivial (by simp [uniq]) ?_ ⟨rfl, rfl⟩
  simp only [go_sem, rr12, lw_plain, ew_plain, ren]
def brc (U : Nat → Nat) (m : Nat) (c6 c7 : Nat → Cap) (i : Nat) : List V := lc (U i) ++ [.sl (3 + 2 * i) 0 m (c6 i), .sl (4 + 2 * i) 0 m (c7 i)]
theorem brc_len (U : Nat → Nat) (m : Nat) (c6 c7 : Nat → Cap) (i : Nat) : (brc U m c6 c7 i).length = 6 := rfl
theorem brc_known (U : Nat → Nat) (m : Nat) (c6 c7 : Nat → Cap) (i : Nat) : (brc U m c6 c7 i).all V.known = true := rfl
theorem brc_one (U : Nat → Nat) (m : Nat) (c6 c7 : Nat → Cap) (i : Nat) : (brc U m c6 c7 i).all V.one = true := rfl
theorem brc_t6 (U : Nat → Nat) (m : Nat) (c6 c7 : Nat → Cap) (i : Nat) : (brc U m c6 c7 i).take 6 = brc U m c6 c7 i := rfl
theorem brc_d6 (U : Nat → Nat) (m : Nat) (c6 c7 : Nat → Cap) (i : Nat) : (brc U m c6 c7 i).drop 6 = [] := rfl
theorem brc_u (U : Nat → Nat) (m : Nat) (c6 c7 : Nat → Cap) (i : Nat) : (brc U m c6 c7 i).take 4 = lc (U i) := rfl
theorem brc_a (U : Nat → Nat) (m : Nat) (c6 c7 : Nat → Cap) (i : Nat) : ((brc U m c6 c7 i).drop 4).take 1 = [.sl (3 + 2 * i) 0 m (c6 i)] := rfl
theorem brc_b (U : Nat → Nat) (m : Nat) (c6 c7 : Nat → Cap) (i : Nat) : ((brc U m c6 c7 i).drop 5).take 1 = [.sl (4 + 2 * i) 0 m (c7 i)] := rfl
def brs (U : Nat → Nat) (m : Nat) (c6 c7 : Nat → Cap) : List V := row 4 (brc U m c6 c7)
theorem brs_len (U : Nat → Nat) (m : Nat) (c6 c7 : Nat → Cap) : (brs U m c6 c7).length = 24 := rfl
theorem brs_get (U : Nat → Nat) (m : Nat) (c6 c7 : Nat → Cap) {i : Nat} (h : i < 4) : ((brs U m c6 c7).drop (i * 6)).take 6 = brc U m c6 c7 i := row_get' (s := 6) (e := brc U m c6 c7) (fun _ => rfl) h
theorem brs_known (U : Nat → Nat) (m : Nat) (c6 c7 : Nat → Cap) : (brs U m c6 c7).all V.known = true := rfl
theorem brs_one (U : Nat → Nat) (m : Nat) (c6 c7 : Nat → Cap) : (brs U m c6 c7).all V.one = true := rfl
theorem brs_rens (U : Nat → Nat) (m : Nat) (c6 c7 : Nat → Cap) (f : Nat → Nat) (hf : ∀ i, i < 11 → f i = i) : rens f (brs U m c6 c7) = brs U m c6 c7 := by
  have key : ∀ i, i < 4 → rens f (brc U m c6 c7 i) = brc U m c6 c7 i := fun i hi => by
    unfold brc
    rw [rens_append, lc_rens]
    simp only [rens, ren, hf (3 + 2 * i) (by omega), hf (4 + 2 * i) (by omega)]
  show rens f ([] ++ brc U m c6 c7 0 ++ brc U m c6 c7 1 ++ brc U m c6 c7 2 ++ brc U m c6 c7 3) = _
  rw [rens_append, rens_append, rens_append, rens_append, key 0 (by decide), key 1 (by decide), key 2 (by decide), key 3 (by decide)]
  rfl
theorem brc_rens (U : Nat → Nat) (m : Nat) (c6 c7 : Nat → Cap) (f : Nat → Nat) (hf : ∀ i, i < 11 → f i = i) (i : Nat) (hi : i < 4) : rens f (brc U m c6 c7 i) = brc U m c6 c7 i := by
  unfold brc
  rw [rens_append, lc_rens]
  simp only [rens, ren, hf (3 + 2 * i) (by omega), hf (4 + 2 * i) (by omega)]
attribute [local go_sem ↓] brc_len brc_known brc_one brc_t6 brc_d6 brc_u brc_a brc_b brs_len brs_known brs_one
theorem gm14 (L : Nat) : ∀ i, i < 11 → gmap [0, 1, 2, 3, 4, 5, 6, 7, 8, 9, 10, 11, 12, 13] L i = i := by
  intro i hi
  match i, hi with
  | 0, _ | 1, _ | 2, _ | 3, _ | 4, _ | 5, _ | 6, _ | 7, _ | 8, _ | 9, _ | 10, _ => rfl
  | n + 11, h => omega
theorem sd8 (P Q : Nat) (l : List V) : (lc P ++ (lc Q ++ l)).drop 8 = l := rfl
theorem sd9 (P Q : Nat) (x y : V) : (lc P ++ (lc Q ++ [x, y])).drop 9 = [y] := rfl
theorem sd4 (P Q : Nat) (l : List V) : ((lc P ++ (lc Q ++ l)).drop 4).take 4 = lc Q := rfl
theorem sdt (P Q : Nat) (l : List V) : (lc P ++ (lc Q ++ l)).take 4 = lc P := rfl
theorem stk (P Q : Nat) (x y : V) : (lc P ++ (lc Q ++ [x, y])).take 10 = lc P ++ (lc Q ++ [x, y]) := rfl
theorem std (P Q : Nat) (x y : V) : (lc P ++ (lc Q ++ [x, y])).drop 10 = [] := rfl
theorem gh_fit (p q l r : Nat) (U : Nat → Nat) (g h : Nat → Nat) (A B : Nat → Nat → Nat) (m : Nat) (c6 c7 : Nat → Cap) (x : Heap) (L : Nat) : hfit (gmap [0, 1, 2, 3, 4, 5, 6, 7, 8, 9, 10, 11, 12, 13] L) ([some ⟨.ro, scs (2 * m) g⟩, some ⟨.ro, scs (2 * m) h⟩, some ⟨.ro, brs U m c6 c7⟩, some ⟨.ro, scs m (A 0)⟩, some ⟨.ro, scs m (B 0)⟩, some ⟨.ro, scs m (A 1)⟩, some ⟨.ro, scs m (B 1)⟩, some ⟨.ro, scs m (A 2)⟩, some ⟨.ro, scs m (B 2)⟩, some ⟨.ro, scs m (A 3)⟩, some ⟨.ro, scs m (B 3)⟩, some ⟨.rw, lc p ++ (lc q ++ [.sl 0 0 (2 * m) (.grow 4), .sl 1 0 (2 * m) (.grow 4)])⟩, some ⟨.rw, lc l⟩, some ⟨.rw, lc r⟩] ++ x) [0, 1, 2, 3, 4, 5, 6, 7, 8, 9, 10, 11, 12, 13] [some ⟨.ro, scs (2 * m) g⟩, some ⟨.ro, scs (2 * m) h⟩, some ⟨.ro, brs U m c6 c7⟩, some ⟨.ro, scs m (A 0)⟩, some ⟨.ro, scs m (B 0)⟩, some ⟨.ro, scs m (A 1)⟩, some ⟨.ro, scs m (B 1)⟩, some ⟨.ro, scs m (A 2)⟩, some ⟨.ro, scs m (B 2)⟩, some ⟨.ro, scs m (A 3)⟩, some ⟨.ro, scs m (B 3)⟩, some ⟨.rw, lc p ++ (lc q ++ [.sl 0 0 (2 * m) (.grow 4), .sl 1 0 (2 * m) (.grow 4)])⟩, some ⟨.rw, lc l⟩, some ⟨.rw, lc r⟩] := by
  exact hfit_cons rfl (jb_g (scs_rens ..)) (hfit_cons rfl (jb_g (scs_rens ..)) (hfit_cons rfl (jb_g (brs_rens _ _ _ _ _ (gm14 _))) (hfit_cons rfl (jb_g (scs_rens ..)) (hfit_cons rfl (jb_g (scs_rens ..)) (hfit_cons rfl (jb_g (scs_rens ..)) (hfit_cons rfl (jb_g (scs_rens ..)) (hfit_cons rfl (jb_g (scs_rens ..)) (hfit_cons rfl (jb_g (scs_rens ..)) (hfit_cons rfl (jb_g (scs_rens ..)) (hfit_cons rfl (jb_g (scs_rens ..)) (hfit_cons rfl (jb_g (by simp only [rens_append, lc_rens]; rfl)) (hfit_cons rfl (jb_g (lc_rens ..)) (hfit_cons rfl (jb_g (lc_rens ..)) hfit_nil)))))))))))))
theorem gm11j (L : Nat) : ∀ i, i < 11 → gmap [0, 1, 2, 3, 4, 5, 6, 7, 8, 9, 10] L i = i := by
  intro i hi
  match i, hi with
  | 0, _ | 1, _ | 2, _ | 3, _ | 4, _ | 5, _ | 6, _ | 7, _ | 8, _ | 9, _ | 10, _ => rfl
  | n + 11, h => omega
theorem gh_fit11 (p q l r : Nat) (U : Nat → Nat) (g h : Nat → Nat) (A B : Nat → Nat → Nat) (m : Nat) (c6 c7 : Nat → Cap) (x : Heap) (L : Nat) : hfit (gmap [0, 1, 2, 3, 4, 5, 6, 7, 8, 9, 10] L) ([some ⟨.ro, scs (2 * m) g⟩, some ⟨.ro, scs (2 * m) h⟩, some ⟨.ro, brs U m c6 c7⟩, some ⟨.ro, scs m (A 0)⟩, some ⟨.ro, scs m (B 0)⟩, some ⟨.ro, scs m (A 1)⟩, some ⟨.ro, scs m (B 1)⟩, some ⟨.ro, scs m (A 2)⟩, some ⟨.ro, scs m (B 2)⟩, some ⟨.ro, scs m (A 3)⟩, some ⟨.ro, scs m (B 3)⟩] ++ x) [0, 1, 2, 3, 4, 5, 6, 7, 8, 9, 10] [some ⟨.ro, scs (2 * m) g⟩, some ⟨.ro, scs (2 * m) h⟩, some ⟨.ro, brs U m c6 c7⟩, some ⟨.ro, scs m (A 0)⟩, some ⟨.ro, scs m (B 0)⟩, some ⟨.ro, scs m (A 1)⟩, some ⟨.ro, scs m (B 1)⟩, some ⟨.ro, scs m (A 2)⟩, some ⟨.ro, scs m (B 2)⟩, some ⟨.ro, scs m (A 3)⟩, some ⟨.ro, scs m (B 3)⟩] := by
  exact hfit_cons rfl (jb_g (scs_rens ..)) (hfit_cons rfl (jb_g (scs_rens ..)) (hfit_cons rfl (jb_g (brs_rens _ _ _ _ _ (gm11j _))) (hfit_cons rfl (jb_g (scs_rens ..)) (hfit_cons rfl (jb_g (scs_rens ..)) (hfit_cons rfl (jb_g (scs_rens ..)) (hfit_cons rfl (jb_g (scs_rens ..)) (hfit_cons rfl (jb_g (scs_rens ..)) (hfit_cons rfl (jb_g (scs_rens ..)) (hfit_cons rfl (jb_g (scs_rens ..)) (hfit_cons rfl (jb_g (scs_rens ..)) hfit_nil))))))))))
theorem gm15 (L : Nat) : ∀ i, i < 11 → gmap [0, 1, 2, 3, 4, 5, 6, 7, 8, 9, 10, 11, 12, 13, 14] L i = i := by
  intro i hi
  match i, hi with
  | 0, _ | 1, _ | 2, _ | 3, _ | 4, _ | 5, _ | 6, _ | 7, _ | 8, _ | 9, _ | 10, _ => rfl
  | n + 11, h => omega
theorem gh_fit15 (p q l r : Nat) (U : Nat → Nat) (g h : Nat → Nat) (A B : Nat → Nat → Nat) (m : Nat) (c6 c7 : Nat → Cap) (i : Nat) (hi : i < 4) (x : Heap) (L : Nat) : hfit (gmap [0, 1, 2, 3, 4, 5, 6, 7, 8, 9, 10, 11, 12, 13, 14] L) ([some ⟨.ro, scs (2 * m) g⟩, some ⟨.ro, scs (2 * m) h⟩, some ⟨.ro, brs U m c6 c7⟩, some ⟨.ro, scs m (A 0)⟩, some ⟨.ro, scs m (B 0)⟩, some ⟨.ro, scs m (A 1)⟩, some ⟨.ro, scs m (B 1)⟩, some ⟨.ro, scs m (A 2)⟩, some ⟨.ro, scs m (B 2)⟩, some ⟨.ro, scs m (A 3)⟩, some ⟨.ro, scs m (B 3)⟩, some ⟨.rw, lc p ++ (lc q ++ [.sl 0 0 (2 * m) (.grow 4), .sl 1 0 (2 * m) (.grow 4)])⟩, some ⟨.rw, lc l⟩, some ⟨.rw, lc r⟩, some ⟨.rw, brc U m c6 c7 i⟩] ++ x) [0, 1, 2, 3, 4, 5, 6, 7, 8, 9, 10, 11, 12, 13, 14] [some ⟨.ro, scs (2 * m) g⟩, some ⟨.ro, scs (2 * m) h⟩, some ⟨.ro, brs U m c6 c7⟩, some ⟨.ro, scs m (A 0)⟩, some ⟨.ro, scs m (B 0)⟩, some ⟨.ro, scs m (A 1)⟩, some ⟨.ro, scs m (B 1)⟩, some ⟨.ro, scs m (A 2)⟩, some ⟨.ro, scs m (B 2)⟩, some ⟨.ro, scs m (A 3)⟩, some ⟨.ro, scs m (B 3)⟩, some ⟨.rw, lc p ++ (lc q ++ [.sl 0 0 (2 * m) (.grow 4), .sl 1 0 (2 * m) (.grow 4)])⟩, some ⟨.rw, lc l⟩, some ⟨.rw, lc r⟩, some ⟨.rw, brc U m c6 c7 i⟩] := by
  exact hfit_cons rfl (jb_g (scs_rens ..)) (hfit_cons rfl (jb_g (scs_rens ..)) (hfit_cons rfl (jb_g (brs_rens _ _ _ _ _ (gm15 _))) (hfit_cons rfl (jb_g (scs_rens ..)) (hfit_cons rfl (jb_g (scs_rens ..)) (hfit_cons rfl (jb_g (scs_rens ..)) (hfit_cons rfl (jb_g (scs_rens ..)) (hfit_cons rfl (jb_g (scs_rens ..)) (hfit_cons rfl (jb_g (scs_rens ..)) (hfit_cons rfl (jb_g (scs_rens ..)) (hfit_cons rfl (jb_g (scs_rens ..)) (hfit_cons rfl (jb_g (by simp only [rens_append, lc_rens]; rfl)) (hfit_cons rfl (jb_g (lc_rens ..)) (hfit_cons rfl (jb_g (lc_rens ..)) (hfit_cons rfl (jb_g (brc_rens _ _ _ _ _ (gm15 _) i hi)) hfit_nil))))))))))))))
theorem gh_a (pre : Heap) (hp : pre.length = 3) (X : Nat → Option Blk) (Y : Nat → Option Blk) (r : Heap) {i : Nat} (hi : i < 4) : (pre ++ [X 0, Y 0, X 1, Y 1, X 2, Y 2, X 3, Y 3] ++ r)[3 + 2 * i]? = some (X i) ∧ (pre ++ [X 0, Y 0, X 1, Y 1, X 2, Y 2, X 3, Y 3] ++ r)[4 + 2 * i]? = some (Y i) := by
  match pre, hp with
  | [a, b, c], _ =>
    match i, hi with
    | 0, _ | 1, _ | 2, _ | 3, _ => exact ⟨rfl, rfl⟩
    | n + 4, h => omega
theorem given_l4 (hG : G 0 = tbl) (p q l r : Nat) (hp : p < 115792089237316195423570985008687907853269984665640564039457584007913129639936) (hq : q < 115792089237316195423570985008687907853269984665640564039457584007913129639936) (hl : l < 115792089237316195423570985008687907853269984665640564039457584007913129639936) (hr : r < 115792089237316195423570985008687907853269984665640564039457584007913129639936) (U : Nat → Nat) (hU : ∀ j, U j < 115792089237316195423570985008687907853269984665640564039457584007913129639936) (g h : Nat → Nat) (hg : ∀ j, g j < 115792089237316195423570985008687907853269984665640564039457584007913129639936) (hh : ∀ j, h j < 115792089237316195423570985008687907853269984665640564039457584007913129639936) (A B : Nat → Nat → Nat) (hA : ∀ i j, A i j < 115792089237316195423570985008687907853269984665640564039457584007913129639936) (hB : ∀ i j, B i j < 115792089237316195423570985008687907853269984665640564039457584007913129639936) (m : Nat) (hm : 0 < m) (hm4 : m ≤ 4) (hpw : ∃ k : Nat, k ≤ 10 ∧ 2 * m = 2 ^ k) (c6 c7 : Nat → Cap)
    (nz : ∀ j, j < 4 → U j % ell ≠ 0) (un : ∀ j k, j < 4 → k < 4 → j ≠ k → U j * U j % ell ≠ U k * U k % ell)
    (hn : ∀ i, i < 4 → psum (tK (inn (A i) (B i) m) (A i) (B i)) (tK q (fe (linv (U i)) (U i) m g) (fe (U i) (linv (U i)) m h)) (1 + 2 * m) % ell = pf1 p l r (U i) % ell)
    {Q : V → Heap → Prop} (hQ : Q (.int .i64 0) [some ⟨.ro, scs (2 * m) g⟩, some ⟨.ro, scs (2 * m) h⟩, some ⟨.ro, brs U m c6 c7⟩, some ⟨.ro, scs m (A 0)⟩, some ⟨.ro, scs m (B 0)⟩, some ⟨.ro, scs m (A 1)⟩, some ⟨.ro, scs m (B 1)⟩, some ⟨.ro, scs m (A 2)⟩, some ⟨.ro, scs m (B 2)⟩, some ⟨.ro, scs m (A 3)⟩, some ⟨.ro, scs m (B 3)⟩]) :
    RunM Tryd.prog G 20 11 {} Q ([TI.l v20_48, TI.b 8, TI.c ((VC.reg v20_50).seq VC.ret)], ⟨[.unk, .unk, .unk, .sl 2 0 4 (.grow 6), .ptr 11 0, .ptr 12 0, .ptr 13 0, .unk, .unk, .int .i64 ((2 * m : Nat) : Int)] ++ List.replicate 100 .unk ++ [.sl 2 0 4 (.grow 6), .int .i64 (4 : Nat), .int .i64 (0 : Nat)] ++ List.replicate 30 .unk, [some ⟨.ro, scs (2 * m) g⟩, some ⟨.ro, scs (2 * m) h⟩, some ⟨.ro, brs U m c6 c7⟩, some ⟨.ro, scs m (A 0)⟩, some ⟨.ro, scs m (B 0)⟩, some ⟨.ro, scs m (A 1)⟩, some ⟨.ro, scs m (B 1)⟩, some ⟨.ro, scs m (A 2)⟩, some ⟨.ro, scs m (B 2)⟩, some ⟨.ro, scs m (A 3)⟩, some ⟨.ro, scs m (B 3)⟩, some ⟨.rw, lc p ++ (lc q ++ [.sl 0 0 (2 * m) (.grow 4), .sl 1 0 (2 * m) (.grow 4)])⟩, some ⟨.rw, lc l⟩, some ⟨.rw, lc r⟩]⟩) := by
  have hWE := ell_lt
  have hfl : ∀ i j, fe (linv (U i)) (U i) m g j < 115792089237316195423570985008687907853269984665640564039457584007913129639936 := fun i j => Nat.lt_trans (fe_lt ..) ell_lt
  have hfh : ∀ i j, fe (U i) (linv (U i)) m h j < 115792089237316195423570985008687907853269984665640564039457584007913129639936 := fun i j => Nat.lt_trans (fe_lt ..) ell_lt
  refine run_for (fun i => ⟨[.unk, .unk, .unk, .sl 2 0 4 (.grow 6), .ptr 11 0, .ptr 12 0, .ptr 13 0, .unk, .unk, .int .i64 ((2 * m : Nat) : Int)] ++ List.replicate 100 .unk ++ [.sl 2 0 4 (.grow 6), .int .i64 (4 : Nat), .int .i64 (i : Nat)] ++ List.replicate 30 .unk, [some ⟨.ro, scs (2 * m) g⟩, some ⟨.ro, scs (2 * m) h⟩, some ⟨.ro, brs U m c6 c7⟩, some ⟨.ro, scs m (A 0)⟩, some ⟨.ro, scs m (B 0)⟩, some ⟨.ro, scs m (A 1)⟩, some ⟨.ro, scs m (B 1)⟩, some ⟨.ro, scs m (A 2)⟩, some ⟨.ro, scs m (B 2)⟩, some ⟨.ro, scs m (A 3)⟩, some ⟨.ro, scs m (B 3)⟩, some ⟨.rw, lc p ++ (lc q ++ [.sl 0 0 (2 * m) (.grow 4), .sl 1 0 (2 * m) (.grow 4)])⟩, some ⟨.rw, lc l⟩, some ⟨.rw, lc r⟩]⟩) 4 (fun i hi ih => ?_) ?_
  · have h0 : ((i : Int) < 4) = True := eq_true (by omega)
    have hw : IntKind.i64.wrap ((i : Int) + 1) = ((i + 1 : Nat) : Int) := by rw [wrap_i64 (by omega) (by omega)]; omega
    have g1 := brs_get U m c6 c7 hi
    refine run_loop_eq v20_48.eq_1 ?_
    refine run_driveS 80 ?_
    simp only [go_sem, v20_40, v20_46, v20_41, v20_42, h0, g1]
    refine run_call' rfl ?_
    simp only [go_sem, calV]
    refine vcall_at (folded_ hG p q l r (U i) m hp hq hl hr (hU i) hm (by omega) (.grow 4) (.grow 4) (.inl rfl) (.inl rfl) g h hg hh (fun v k => v = stL (pf1 p l r (U i)) q (.sl 2 0 m (.exact m)) (.sl 3 0 m (.exact m)) ∧ k = [some ⟨.ro, scs (2 * m) g⟩, some ⟨.ro, scs (2 * m) h⟩, some ⟨.rw, scs m (fe (linv (U i)) (U i) m g)⟩, some ⟨.rw, scs m (fe (U i) (linv (U i)) m h)⟩]) ⟨rfl, rfl⟩) [0, 1] (by simp) ?_ (uniq_nodup' (by decide)) ?_ ?_
    · exact hfit_cons rfl (jb_ro (scs_rens ..)) (hfit_cons rfl (jb_ro (scs_rens ..)) hfit_nil)
    · simp only [rens, ren, gmap, stL, lw_plain, rens_append, lc_rens]
    rintro v k ⟨rfl, rfl⟩
    rw [puts_ro (by simp [wrB]) rfl (by simp)]
    simp only [List.map_cons, List.map_nil, Option.map_some, renB, scs_rens, rens_append, lc_rens, rens, ren, gmap, stL, List.drop_succ_cons, List.drop_zero, List.cons_append, List.nil_append, List.length_cons, List.length_nil, Nat.reduceAdd, List.append_assoc]
    refine run_driveS 80 ?_
    simp only [go_sem, v20_43, stk, std, sd4, sd8, sd9]
    refine run_call' rfl ?_
    simp only [go_sem, calV]
    have z0 : ∀ f : Nat → Nat, ∀ j, j < m → ((scs m f).drop (0 + j * 4)).take 4 = lc (f j) := fun f j hj => by rw [Nat.zero_add]; exact scs_get' m f hj
    have lk := gh_a [some ⟨.ro, scs (2 * m) g⟩, some ⟨.ro, scs (2 * m) h⟩, some ⟨.ro, brs U m c6 c7⟩] rfl (fun i => some ⟨.ro, scs m (A i)⟩) (fun i => some ⟨.ro, scs m (B i)⟩) [some ⟨.rw, lc p ++ (lc q ++ [.sl 0 0 (2 * m) (.grow 4), .sl 1 0 (2 * m) (.grow 4)])⟩, some ⟨.rw, lc l⟩, some ⟨.rw, lc r⟩, some ⟨.rw, brc U m c6 c7 i⟩, some ⟨.rw, scs m (fe (linv (U i)) (U i) m g)⟩, some ⟨.rw, scs m (fe (U i) (linv (U i)) m h)⟩, some ⟨.rw, lc (pf1 p l r (U i)) ++ (lc q ++ [.sl 15 0 m (.exact m), .sl 16 0 m (.exact m)])⟩] hi
    refine vcall_at (Image_ hG q hq (fe (linv (U i)) (U i) m g) (fe (U i) (linv (U i)) m h) (A i) (B i) m (fun j _ => hfl i j) (fun j _ => hfh i j) (fun j _ => hA i j) (fun j _ => hB i j) hm (by omega) (scs m (fe (linv (U i)) (U i) m g)) (scs m (fe (U i) (linv (U i)) m h)) (scs m (A i)) (scs m (B i)) 0 0 0 0 (z0 _) (z0 _) (z0 _) (z0 _) (fun f => scs_rens ..) (fun f => scs_rens ..) (fun f => scs_rens ..) (fun f => scs_rens ..) (.exact m) (.exact m) (c6 i) (c7 i) (Q := fun v k => v = .tup [lw (psum (tK (inn (A i) (B i) m) (A i) (B i)) (tK q (fe (linv (U i)) (U i) m g) (fe (U i) (linv (U i)) m h)) (1 + 2 * m)), .int .i64 0] ∧ k = [none, none, none, none]) ⟨rfl, rfl⟩) [15, 16, 3 + 2 * i, 4 + 2 * i] ?_ ?_ (uniq_nodup' (by simp; omega)) ?_ ?_
    · intro j hj
      simp only [List.mem_cons, List.not_mem_nil, or_false] at hj
      show j < 18
      omega
    · exact hfit_cons rfl (jb_ro (scs_rens ..)) (hfit_cons rfl (jb_ro (scs_rens ..)) (hfit_cons lk.1 (jb_ro (scs_rens ..)) (hfit_cons lk.2 (jb_ro (scs_rens ..)) hfit_nil)))
    · simp only [rens, ren, gmap, lw_plain]
    rintro v k ⟨rfl, rfl⟩
    rw [puts_ro (by simp [wrB]) rfl (by simp)]
    simp only [List.drop_succ_cons, List.drop_zero, List.length_cons, List.length_nil, List.map_nil, List.append_nil, Nat.reduceAdd, lw_plain, ren, rens]
    refine run_driveS 80 ?_
    simp only [go_sem]
    refine run_driveS 80 ?_
    simp only [go_sem, v20_44, sd8, sd9, sdt]
    refine run_call' rfl ?_
    simp only [go_sem, calV, m_sameL]
    refine line_same hG _ _ (psum_lt ..) (Nat.lt_trans (pf1_lt ..) ell_lt) ?_
    rw [decide_eq_true (hn i hi)]
    refine run_driveS 80 ?_
    simp only [go_sem]
    refine run_cond_f (by rfl) ?_
    refine run_driveS 80 ?_
    simp only [go_sem, v20_47, hw]
    refine run_rename [0, 1, 2, 3, 4, 5, 6, 7, 8, 9, 10, 11, 12, 13] rfl (by simp) ?_ (uniq_nodup' (by decide)) ?_ ih
    · exact gh_fit p q l r U g h A B m c6 c7 [some ⟨.rw, brc U m c6 c7 i⟩, some ⟨.rw, scs m (fe (linv (U i)) (U i) m g)⟩, some ⟨.rw, scs m (fe (U i) (linv (U i)) m h)⟩, some ⟨.rw, lc (pf1 p l r (U i)) ++ (lc q ++ [.sl 15 0 m (.exact m), .sl 16 0 m (.exact m)])⟩, some ⟨.rw, lc (psum (tK (inn (A i) (B i) m) (A i) (B i)) (tK q (fe (linv (U i)) (U i) m g) (fe (U i) (linv (U i)) m h)) (1 + 2 * m))⟩] _
    · simp only [go_sem, fit, ren, gmap, true_or, or_true]
  · refine run_loop_eq v20_48.eq_1 ?_
    refine run_driveS 80 ?_
    simp only [go_sem, v20_40]
    refine run_exit rfl ?_
    refine run_driveS 80 ?_
    simp only [go_sem, v20_50]
    refine run_ret_drop Tryd.func20 res20 [0, 1, 2, 3, 4, 5, 6, 7, 8, 9, 10] (.int .i64 0) _ rfl (by simp) ?_ (uniq_nodup' (by decide)) rfl hQ
    exact (gh_fit11 p q l r U g h A B m c6 c7 [some ⟨.rw, lc p ++ (lc q ++ [.sl 0 0 (2 * m) (.grow 4), .sl 1 0 (2 * m) (.grow 4)])⟩, some ⟨.rw, lc l⟩, some ⟨.rw, lc r⟩] _)
end
section
attribute [local go_sem ↓] lc_len lc_take lc_drop lc_known lc_one lc_rens lc_cells lw_known lw_agg lw_asG scs_known scs_one scs_len lc_take_add lc_drop_add brc_len brc_known brc_one brc_t6 brc_d6 brc_u brc_a brc_b brs_len brs_known brs_one
attribute [local go_sem] lt_nat lt_natl lt_lnat lt_ll bool_tf bool_ft
set_option maxRecDepth 100000
set_option maxHeartbeats 2000000
theorem given_l3 (hG : G 0 = tbl) (p q l r : Nat) (hp : p < 115792089237316195423570985008687907853269984665640564039457584007913129639936) (hq : q < 115792089237316195423570985008687907853269984665640564039457584007913129639936) (hl : l < 115792089237316195423570985008687907853269984665640564039457584007913129639936) (hr : r < 115792089237316195423570985008687907853269984665640564039457584007913129639936) (U : Nat → Nat) (hU : ∀ j, U j < 115792089237316195423570985008687907853269984665640564039457584007913129639936) (g h : Nat → Nat) (hg : ∀ j, g j < 115792089237316195423570985008687907853269984665640564039457584007913129639936) (hh : ∀ j, h j < 115792089237316195423570985008687907853269984665640564039457584007913129639936) (A B : Nat → Nat → Nat) (hA : ∀ i j, A i j < 115792089237316195423570985008687907853269984665640564039457584007913129639936) (hB : ∀ i j, B i j < 115792089237316195423570985008687907853269984665640564039457584007913129639936) (m : Nat) (hm : 0 < m) (hm4 : m ≤ 4) (hpw : ∃ k : Nat, k ≤ 10 ∧ 2 * m = 2 ^ k) (c6 c7 : Nat → Cap)
    (nz : ∀ j, j < 4 → U j % ell ≠ 0) (un : ∀ j k, j < 4 → k < 4 → j ≠ k → U j * U j % ell ≠ U k * U k % ell)
    (hn : ∀ i, i < 4 → psum (tK (inn (A i) (B i) m) (A i) (B i)) (tK q (fe (linv (U i)) (U i) m g) (fe (U i) (linv (U i)) m h)) (1 + 2 * m) % ell = pf1 p l r (U i) % ell)
    {Q : V → Heap → Prop} (hQ : Q (.int .i64 0) [some ⟨.ro, scs (2 * m) g⟩, some ⟨.ro, scs (2 * m) h⟩, some ⟨.ro, brs U m c6 c7⟩, some ⟨.ro, scs m (A 0)⟩, some ⟨.ro, scs m (B 0)⟩, some ⟨.ro, scs m (A 1)⟩, some ⟨.ro, scs m (B 1)⟩, some ⟨.ro, scs m (A 2)⟩, some ⟨.ro, scs m (B 2)⟩, some ⟨.ro, scs m (A 3)⟩, some ⟨.ro, scs m (B 3)⟩]) :
    RunM Tryd.prog G 20 11 {} Q ([TI.l v20_37, TI.b 4, TI.c (((VC.reg v20_39).seq (VC.block 8 v20_49)).seq ((VC.reg v20_50).seq VC.ret))], ⟨[.unk, .unk, .unk, .sl 2 0 4 (.grow 6), .ptr 11 0, .ptr 12 0, .ptr 13 0, .unk, .unk, .int .i64 ((2 * m : Nat) : Int)] ++ List.replicate 72 .unk ++ [.sl 2 0 4 (.grow 6), .int .i64 (4 : Nat), .int .i64 (0 : Nat)] ++ List.replicate 58 .unk, [some ⟨.ro, scs (2 * m) g⟩, some ⟨.ro, scs (2 * m) h⟩, some ⟨.ro, brs U m c6 c7⟩, some ⟨.ro, scs m (A 0)⟩, some ⟨.ro, scs m (B 0)⟩, some ⟨.ro, scs m (A 1)⟩, some ⟨.ro, scs m (B 1)⟩, some ⟨.ro, scs m (A 2)⟩, some ⟨.ro, scs m (B 2)⟩, some ⟨.ro, scs m (A 3)⟩, some ⟨.ro, scs m (B 3)⟩, some ⟨.rw, lc p ++ (lc q ++ [.sl 0 0 (2 * m) (.grow 4), .sl 1 0 (2 * m) (.grow 4)])⟩, some ⟨.rw, lc l⟩, some ⟨.rw, lc r⟩]⟩) := by
  refine run_for (fun i => ⟨[.unk, .unk, .unk, .sl 2 0 4 (.grow 6), .ptr 11 0, .ptr 12 0, .ptr 13 0, .unk, .unk, .int .i64 ((2 * m : Nat) : Int)] ++ List.replicate 72 .unk ++ [.sl 2 0 4 (.grow 6), .int .i64 (4 : Nat), .int .i64 (i : Nat)] ++ List.replicate 58 .unk, [some ⟨.ro, scs (2 * m) g⟩, some ⟨.ro, scs (2 * m) h⟩, some ⟨.ro, brs U m c6 c7⟩, some ⟨.ro, scs m (A 0)⟩, some ⟨.ro, scs m (B 0)⟩, some ⟨.ro, scs m (A 1)⟩, some ⟨.ro, scs m (B 1)⟩, some ⟨.ro, scs m (A 2)⟩, some ⟨.ro, scs m (B 2)⟩, some ⟨.ro, scs m (A 3)⟩, some ⟨.ro, scs m (B 3)⟩, some ⟨.rw, lc p ++ (lc q ++ [.sl 0 0 (2 * m) (.grow 4), .sl 1 0 (2 * m) (.grow 4)])⟩, some ⟨.rw, lc l⟩, some ⟨.rw, lc r⟩]⟩) 4 (fun i hi ih => ?_) ?_
  · have h0 : ((i : Int) < 4) = True := eq_true (by omega)
    have hw : IntKind.i64.wrap ((i : Int) + 1) = ((i + 1 : Nat) : Int) := by rw [wrap_i64 (by omega) (by omega)]; omega
    have g1 := brs_get U m c6 c7 hi
    have hi4 : ((i : Int) ≤ 4) = True := eq_true (by omega)
    refine run_loop_eq v20_37.eq_1 ?_
    refine run_driveS 80 ?_
    simp only [go_sem, v20_24, v20_35, v20_25, h0, g1]
    refine run_driveS 80 ?_
    simp only [go_sem, v20_26, v20_34, h0, g1, hi4]
    refine run_rename [0, 1, 2, 3, 4, 5, 6, 7, 8, 9, 10, 11, 12, 13, 14] (st' := ⟨[.unk, .unk, .unk, .sl 2 0 4 (.grow 6), .ptr 11 0, .ptr 12 0, .ptr 13 0, .unk, .unk, .int .i64 ((2 * m : Nat) : Int)] ++ List.replicate 6 .unk ++ [.unk, .ptr 14 0] ++ List.replicate 64 .unk ++ [.sl 2 0 4 (.grow 6), .int .i64 (4 : Nat), .int .i64 (i : Nat)] ++ List.replicate 6 .unk ++ [.sl 2 0 i (.grow 6), .int .i64 (i : Nat), .int .i64 (0 : Nat)] ++ List.replicate 49 .unk, [some ⟨.ro, scs (2 * m) g⟩, some ⟨.ro, scs (2 * m) h⟩, some ⟨.ro, brs U m c6 c7⟩, some ⟨.ro, scs m (A 0)⟩, some ⟨.ro, scs m (B 0)⟩, some ⟨.ro, scs m (A 1)⟩, some ⟨.ro, scs m (B 1)⟩, some ⟨.ro, scs m (A 2)⟩, some ⟨.ro, scs m (B 2)⟩, some ⟨.ro, scs m (A 3)⟩, some ⟨.ro, scs m (B 3)⟩, some ⟨.rw, lc p ++ (lc q ++ [.sl 0 0 (2 * m) (.grow 4), .sl 1 0 (2 * m) (.grow 4)])⟩, some ⟨.rw, lc l⟩, some ⟨.rw, lc r⟩, some ⟨.rw, brc U m c6 c7 i⟩]⟩) rfl (by simp) ?_ (uniq_nodup' (by decide)) ?_ (run_for (fun j => ⟨[.unk, .unk, .unk, .sl 2 0 4 (.grow 6), .ptr 11 0, .ptr 12 0, .ptr 13 0, .unk, .unk, .int .i64 ((2 * m : Nat) : Int)] ++ List.replicate 6 .unk ++ [.unk, .ptr 14 0] ++ List.replicate 64 .unk ++ [.sl 2 0 4 (.grow 6), .int .i64 (4 : Nat), .int .i64 (i : Nat)] ++ List.replicate 6 .unk ++ [.sl 2 0 i (.grow 6), .int .i64 (i : Nat), .int .i64 (j : Nat)] ++ List.replicate 49 .unk, [some ⟨.ro, scs (2 * m) g⟩, some ⟨.ro, scs (2 * m) h⟩, some ⟨.ro, brs U m c6 c7⟩, some ⟨.ro, scs m (A 0)⟩, some ⟨.ro, scs m (B 0)⟩, some ⟨.ro, scs m (A 1)⟩, some ⟨.ro, scs m (B 1)⟩, some ⟨.ro, scs m (A 2)⟩, some ⟨.ro, scs m (B 2)⟩, some ⟨.ro, scs m (A 3)⟩, some ⟨.ro, scs m (B 3)⟩, some ⟨.rw, lc p ++ (lc q ++ [.sl 0 0 (2 * m) (.grow 4), .sl 1 0 (2 * m) (.grow 4)])⟩, some ⟨.rw, lc l⟩, some ⟨.rw, lc r⟩, some ⟨.rw, brc U m c6 c7 i⟩]⟩) i (fun j hj jh => ?_) ?_)
    · exact gh_fit15 p q l r U g h A B m c6 c7 i hi [] _
    · simp only [go_sem, fit, ren, gmap, true_or, or_true]
    · have h1 : ((j : Int) < (i : Int)) = True := eq_true (by omega)
      have hwj : IntKind.i64.wrap ((j : Int) + 1) = ((j + 1 : Nat) : Int) := by rw [wrap_i64 (by omega) (by omega)]; omega
      have g2 := brs_get U m c6 c7 (show j < 4 by omega)
      refine run_loop_eq v20_33.eq_1 ?_
      refine run_driveS 80 ?_
      simp only [go_sem, v20_27, v20_31, v20_28, h1, g2]
      refine run_drw (by kernel_rfl) ?_
      refine drun_drive 40 (p := (_, _)) ?_
      simp only [go_sem, v20_29, restore, Option.join_some, maskH, List.mapIdx_cons, List.mapIdx_nil, List.contains_cons, List.contains_nil, Bool.or_false, Bool.or_true, Bool.false_or, Bool.true_or, Nat.reduceBEq]
      refine drun_call' ?_
      simp only [go_sem, calV, restore, Option.join_some, maskH, List.mapIdx_cons, List.mapIdx_nil, List.contains_cons, List.contains_nil, Bool.or_false, Bool.or_true, Bool.false_or, Bool.true_or, Nat.reduceBEq]
      refine mul' hG _ _ (hU i) (hU i) ?_
      refine drun_drive 40 (p := (_, _)) ?_
      simp only [go_sem, restore, Option.join_some, maskH, List.mapIdx_cons, List.mapIdx_nil, List.contains_cons, List.contains_nil, Bool.or_false, Bool.or_true, Bool.false_or, Bool.true_or, Nat.reduceBEq]
      refine drun_call' ?_
      simp only [go_sem, calV, restore, Option.join_some, maskH, List.mapIdx_cons, List.mapIdx_nil, List.contains_cons, List.contains_nil, Bool.or_false, Bool.or_true, Bool.false_or, Bool.true_or, Nat.reduceBEq]
      refine mul' hG _ _ (hU j) (hU j) ?_
      have e := lc_eqL (mod_lt (U i * U i)) (mod_lt (U j * U j))
      rw [show decide (U i * U i % ell = U j * U j % ell) = false from decide_eq_false (un i j hi (by omega) (by omega))] at e
      refine drun_drive 40 (p := (_, _)) ?_
      simp only [go_sem, e, restore, Option.join_some, maskH, List.mapIdx_cons, List.mapIdx_nil, List.contains_cons, List.contains_nil, Bool.or_false, Bool.or_true, Bool.false_or, Bool.true_or, Nat.reduceBEq]
      refine drun_end ?_
      refine run_driveS 80 ?_
      simp only [go_sem]
      refine run_cond_f (by rfl) ?_
      refine run_driveS 80 ?_
      simp only [go_sem, v20_32, hwj]
      refine run_rename [0, 1, 2, 3, 4, 5, 6, 7, 8, 9, 10, 11, 12, 13, 14] rfl (by simp) ?_ (uniq_nodup' (by decide)) ?_ jh
      · exact gh_fit15 p q l r U g h A B m c6 c7 i hi [some ⟨.rw, brc U m c6 c7 j⟩] _
      · simp only [go_sem, fit, ren, gmap, true_or, or_true]
    · have h1 : ((i : Int) < (i : Int)) = False := eq_false (by omega)
      refine run_loop_eq v20_33.eq_1 ?_
      refine run_driveS 80 ?_
      simp only [go_sem, v20_27, h1]
      refine run_exit rfl ?_
      refine run_driveS 80 ?_
      simp only [go_sem, v20_36, hw]
      refine run_rename [0, 1, 2, 3, 4, 5, 6, 7, 8, 9, 10, 11, 12, 13] rfl (by simp) ?_ (uniq_nodup' (by decide)) ?_ ih
      · exact gh_fit p q l r U g h A B m c6 c7 [some ⟨.rw, brc U m c6 c7 i⟩] _
      · simp only [go_sem, fit, ren, gmap, true_or, or_true]
  · refine run_loop_eq v20_37.eq_1 ?_
    refine run_driveS 80 ?_
    simp only [go_sem, v20_24]
    refine run_exit rfl ?_
    refine run_driveS 80 ?_
    simp only [go_sem, v20_39, v20_49]
    refine run_rename [0, 1, 2, 3, 4, 5, 6, 7, 8, 9, 10, 11, 12, 13] (st' := ⟨[.unk, .unk, .unk, .sl 2 0 4 (.grow 6), .ptr 11 0, .ptr 12 0, .ptr 13 0, .unk, .unk, .int .i64 ((2 * m : Nat) : Int)] ++ List.replicate 100 .unk ++ [.sl 2 0 4 (.grow 6), .int .i64 (4 : Nat), .int .i64 (0 : Nat)] ++ List.replicate 30 .unk, [some ⟨.ro, scs (2 * m) g⟩, some ⟨.ro, scs (2 * m) h⟩, some ⟨.ro, brs U m c6 c7⟩, some ⟨.ro, scs m (A 0)⟩, some ⟨.ro, scs m (B 0)⟩, some ⟨.ro, scs m (A 1)⟩, some ⟨.ro, scs m (B 1)⟩, some ⟨.ro, scs m (A 2)⟩, some ⟨.ro, scs m (B 2)⟩, some ⟨.ro, scs m (A 3)⟩, some ⟨.ro, scs m (B 3)⟩, some ⟨.rw, lc p ++ (lc q ++ [.sl 0 0 (2 * m) (.grow 4), .sl 1 0 (2 * m) (.grow 4)])⟩, some ⟨.rw, lc l⟩, some ⟨.rw, lc r⟩]⟩) rfl (by simp) ?_ (uniq_nodup' (by decide)) ?_ (given_l4 hG p q l r hp hq hl hr U hU g h hg hh A B hA hB m hm hm4 hpw c6 c7 nz un hn hQ)
    · exact gh_fit p q l r U g h A B m c6 c7 [] _
    · simp only [go_sem, fit, ren, gmap, true_or, or_true]
end
section
attribute [local go_sem ↓] lc_len lc_take lc_drop lc_known lc_one lc_rens lc_cells lw_known lw_agg lw_asG scs_known scs_one scs_len lc_take_add lc_drop_add brc_len brc_known brc_one brc_t6 brc_d6 brc_u brc_a brc_b brs_len brs_known brs_one
attribute [local go_sem] lt_nat lt_natl lt_lnat lt_ll bool_tf bool_ft
set_option maxRecDepth 100000
set_option maxHeartbeats 2000000
theorem given_l2 (hG : G 0 = tbl) (p q l r : Nat) (hp : p < 115792089237316195423570985008687907853269984665640564039457584007913129639936) (hq : q < 115792089237316195423570985008687907853269984665640564039457584007913129639936) (hl : l < 115792089237316195423570985008687907853269984665640564039457584007913129639936) (hr : r < 115792089237316195423570985008687907853269984665640564039457584007913129639936) (U : Nat → Nat) (hU : ∀ j, U j < 115792089237316195423570985008687907853269984665640564039457584007913129639936) (g h : Nat → Nat) (hg : ∀ j, g j < 115792089237316195423570985008687907853269984665640564039457584007913129639936) (hh : ∀ j, h j < 115792089237316195423570985008687907853269984665640564039457584007913129639936) (A B : Nat → Nat → Nat) (hA : ∀ i j, A i j < 115792089237316195423570985008687907853269984665640564039457584007913129639936) (hB : ∀ i j, B i j < 115792089237316195423570985008687907853269984665640564039457584007913129639936) (m : Nat) (hm : 0 < m) (hm4 : m ≤ 4) (hpw : ∃ k : Nat, k ≤ 10 ∧ 2 * m = 2 ^ k) (c6 c7 : Nat → Cap)
    (nz : ∀ j, j < 4 → U j % ell ≠ 0) (un : ∀ j k, j < 4 → k < 4 → j ≠ k → U j * U j % ell ≠ U k * U k % ell)
    (hn : ∀ i, i < 4 → psum (tK (inn (A i) (B i) m) (A i) (B i)) (tK q (fe (linv (U i)) (U i) m g) (fe (U i) (linv (U i)) m h)) (1 + 2 * m) % ell = pf1 p l r (U i) % ell)
    {Q : V → Heap → Prop} (hQ : Q (.int .i64 0) [some ⟨.ro, scs (2 * m) g⟩, some ⟨.ro, scs (2 * m) h⟩, some ⟨.ro, brs U m c6 c7⟩, some ⟨.ro, scs m (A 0)⟩, some ⟨.ro, scs m (B 0)⟩, some ⟨.ro, scs m (A 1)⟩, some ⟨.ro, scs m (B 1)⟩, some ⟨.ro, scs m (A 2)⟩, some ⟨.ro, scs m (B 2)⟩, some ⟨.ro, scs m (A 3)⟩, some ⟨.ro, scs m (B 3)⟩]) :
    RunM Tryd.prog G 20 11 {} Q ([TI.l v20_21, TI.b 2, TI.c (((VC.reg v20_23).seq (VC.block 4 v20_38)).seq (((VC.reg v20_39).seq (VC.block 8 v20_49)).seq ((VC.reg v20_50).seq VC.ret)))], ⟨[.unk, .unk, .unk, .sl 2 0 4 (.grow 6), .ptr 11 0, .ptr 12 0, .ptr 13 0, .unk, .unk, .int .i64 ((2 * m : Nat) : Int)] ++ List.replicate 62 .unk ++ [.sl 2 0 4 (.grow 6), .int .i64 (4 : Nat), .int .i64 (0 : Nat)] ++ List.replicate 68 .unk, [some ⟨.ro, scs (2 * m) g⟩, some ⟨.ro, scs (2 * m) h⟩, some ⟨.ro, brs U m c6 c7⟩, some ⟨.ro, scs m (A 0)⟩, some ⟨.ro, scs m (B 0)⟩, some ⟨.ro, scs m (A 1)⟩, some ⟨.ro, scs m (B 1)⟩, some ⟨.ro, scs m (A 2)⟩, some ⟨.ro, scs m (B 2)⟩, some ⟨.ro, scs m (A 3)⟩, some ⟨.ro, scs m (B 3)⟩, some ⟨.rw, lc p ++ (lc q ++ [.sl 0 0 (2 * m) (.grow 4), .sl 1 0 (2 * m) (.grow 4)])⟩, some ⟨.rw, lc l⟩, some ⟨.rw, lc r⟩]⟩) := by
  refine run_for (fun i => ⟨[.unk, .unk, .unk, .sl 2 0 4 (.grow 6), .ptr 11 0, .ptr 12 0, .ptr 13 0, .unk, .unk, .int .i64 ((2 * m : Nat) : Int)] ++ List.replicate 62 .unk ++ [.sl 2 0 4 (.grow 6), .int .i64 (4 : Nat), .int .i64 (i : Nat)] ++ List.replicate 68 .unk, [some ⟨.ro, scs (2 * m) g⟩, some ⟨.ro, scs (2 * m) h⟩, some ⟨.ro, brs U m c6 c7⟩, some ⟨.ro, scs m (A 0)⟩, some ⟨.ro, scs m (B 0)⟩, some ⟨.ro, scs m (A 1)⟩, some ⟨.ro, scs m (B 1)⟩, some ⟨.ro, scs m (A 2)⟩, some ⟨.ro, scs m (B 2)⟩, some ⟨.ro, scs m (A 3)⟩, some ⟨.ro, scs m (B 3)⟩, some ⟨.rw, lc p ++ (lc q ++ [.sl 0 0 (2 * m) (.grow 4), .sl 1 0 (2 * m) (.grow 4)])⟩, some ⟨.rw, lc l⟩, some ⟨.rw, lc r⟩]⟩) 4 (fun i hi ih => ?_) ?_
  · have h0 : ((i : Int) < 4) = True := eq_true (by omega)
    have hw : IntKind.i64.wrap ((i : Int) + 1) = ((i + 1 : Nat) : Int) := by rw [wrap_i64 (by omega) (by omega)]; omega
    have g1 := brs_get U m c6 c7 hi
    refine run_loop_eq v20_21.eq_1 ?_
    refine run_driveS 80 ?_
    simp only [go_sem, v20_15, v20_19, v20_16, h0, g1]
    refine run_driveS 80 ?_
    simp only [go_sem, v20_17]
    refine run_call' rfl ?_
    simp only [go_sem, calV]
    refine is_zero' hG _ (hU i) ?_
    rw [show decide (U i % ell = 0) = false from decide_eq_false (nz i hi)]
    refine run_driveS 80 ?_
    simp only [go_sem]
    refine run_cond_f (by rfl) ?_
    refine run_driveS 80 ?_
    simp only [go_sem, v20_20, hw]
    refine run_rename [0, 1, 2, 3, 4, 5, 6, 7, 8, 9, 10, 11, 12, 13] rfl (by simp) ?_ (uniq_nodup' (by decide)) ?_ ih
    · exact gh_fit p q l r U g h A B m c6 c7 [some ⟨.rw, brc U m c6 c7 i⟩] _
    · simp only [go_sem, fit, ren, gmap, true_or, or_true]
  · refine run_loop_eq v20_21.eq_1 ?_
    refine run_driveS 80 ?_
    simp only [go_sem, v20_15]
    refine run_exit rfl ?_
    refine run_driveS 80 ?_
    simp only [go_sem, v20_23, v20_38]
    refine run_rename [0, 1, 2, 3, 4, 5, 6, 7, 8, 9, 10, 11, 12, 13] (st' := ⟨[.unk, .unk, .unk, .sl 2 0 4 (.grow 6), .ptr 11 0, .ptr 12 0, .ptr 13 0, .unk, .unk, .int .i64 ((2 * m : Nat) : Int)] ++ List.replicate 72 .unk ++ [.sl 2 0 4 (.grow 6), .int .i64 (4 : Nat), .int .i64 (0 : Nat)] ++ List.replicate 58 .unk, [some ⟨.ro, scs (2 * m) g⟩, some ⟨.ro, scs (2 * m) h⟩, some ⟨.ro, brs U m c6 c7⟩, some ⟨.ro, scs m (A 0)⟩, some ⟨.ro, scs m (B 0)⟩, some ⟨.ro, scs m (A 1)⟩, some ⟨.ro, scs m (B 1)⟩, some ⟨.ro, scs m (A 2)⟩, some ⟨.ro, scs m (B 2)⟩, some ⟨.ro, scs m (A 3)⟩, some ⟨.ro, scs m (B 3)⟩, some ⟨.rw, lc p ++ (lc q ++ [.sl 0 0 (2 * m) (.grow 4), .sl 1 0 (2 * m) (.grow 4)])⟩, some ⟨.rw, lc l⟩, some ⟨.rw, lc r⟩]⟩) rfl (by simp) ?_ (uniq_nodup' (by decide)) ?_ (given_l3 hG p q l r hp hq hl hr U hU g h hg hh A B hA hB m hm hm4 hpw c6 c7 nz un hn hQ)
    · exact gh_fit p q l r U g h A B m c6 c7 [] _
    · simp only [go_sem, fit, ren, gmap, true_or, or_true]
theorem given_ (hG : G 0 = tbl) (p q l r : Nat) (hp : p < 115792089237316195423570985008687907853269984665640564039457584007913129639936) (hq : q < 115792089237316195423570985008687907853269984665640564039457584007913129639936) (hl : l < 115792089237316195423570985008687907853269984665640564039457584007913129639936) (hr : r < 115792089237316195423570985008687907853269984665640564039457584007913129639936) (U : Nat → Nat) (hU : ∀ j, U j < 115792089237316195423570985008687907853269984665640564039457584007913129639936) (g h : Nat → Nat) (hg : ∀ j, g j < 115792089237316195423570985008687907853269984665640564039457584007913129639936) (hh : ∀ j, h j < 115792089237316195423570985008687907853269984665640564039457584007913129639936) (A B : Nat → Nat → Nat) (hA : ∀ i j, A i j < 115792089237316195423570985008687907853269984665640564039457584007913129639936) (hB : ∀ i j, B i j < 115792089237316195423570985008687907853269984665640564039457584007913129639936) (m : Nat) (hm : 0 < m) (hm4 : m ≤ 4) (hpw : ∃ k : Nat, k ≤ 10 ∧ 2 * m = 2 ^ k) (c6 c7 : Nat → Cap)
    (nz : ∀ j, j < 4 → U j % ell ≠ 0) (un : ∀ j k, j < 4 → k < 4 → j ≠ k → U j * U j % ell ≠ U k * U k % ell)
    (hn : ∀ i, i < 4 → psum (tK (inn (A i) (B i) m) (A i) (B i)) (tK q (fe (linv (U i)) (U i) m g) (fe (U i) (linv (U i)) m h)) (1 + 2 * m) % ell = pf1 p l r (U i) % ell)
    {Q : V → Heap → Prop} (hQ : Q (.int .i64 0) [some ⟨.ro, scs (2 * m) g⟩, some ⟨.ro, scs (2 * m) h⟩, some ⟨.ro, brs U m c6 c7⟩, some ⟨.ro, scs m (A 0)⟩, some ⟨.ro, scs m (B 0)⟩, some ⟨.ro, scs m (A 1)⟩, some ⟨.ro, scs m (B 1)⟩, some ⟨.ro, scs m (A 2)⟩, some ⟨.ro, scs m (B 2)⟩, some ⟨.ro, scs m (A 3)⟩, some ⟨.ro, scs m (B 3)⟩]) :
    VCall Tryd.prog G 20 [stL p q (.sl 0 0 (2 * m) (.grow 4)) (.sl 1 0 (2 * m) (.grow 4)), lw l, lw r, .sl 2 0 4 (.grow 6)] [some ⟨.ro, scs (2 * m) g⟩, some ⟨.ro, scs (2 * m) h⟩, some ⟨.ro, brs U m c6 c7⟩, some ⟨.ro, scs m (A 0)⟩, some ⟨.ro, scs m (B 0)⟩, some ⟨.ro, scs m (A 1)⟩, some ⟨.ro, scs m (B 1)⟩, some ⟨.ro, scs m (A 2)⟩, some ⟨.ro, scs m (B 2)⟩, some ⟨.ro, scs m (A 3)⟩, some ⟨.ro, scs m (B 3)⟩] Q := by
  have hwm : IntKind.i64.wrap (2 * (m : Int)) = ((2 * m : Nat) : Int) := by rw [wrap_i64 (by omega) (by omega)]; omega
  have hn2 : (((2 * m : Nat) : Int) < 2) = False := eq_false (by omega)
  refine vcall_body Tryd.func20 nm20 code20 nt20 ?_
  unfold stL
  refine run_driveS 80 ?_
  simp only [go_sem, v20, v20_0, v20_1, sd8, sd9]
  refine run_driveS 80 ?_
  simp only [go_sem, v20_2, sd8, sd9]
  refine run_call' rfl ?_
  simp only [go_sem, calV]
  refine rounds_ (2 * m) (by omega) (fun k _ _ => ?_) (fun hno => absurd hpw (fun ⟨k, a, b⟩ => hno k a b))
  refine run_driveS 80 ?_
  simp only [go_sem, v20_3, sd8, sd9, hn2]
  refine run_cond_f (by rfl) ?_
  refine run_driveS 80 ?_
  simp only [go_sem, v20_5, v20_13]
  refine run_rename [0, 1, 2, 3, 4, 5, 6, 7, 8, 9, 10, 11, 12, 13] (st' := ⟨[.unk, .unk, .unk, .sl 2 0 4 (.grow 6), .ptr 11 0, .ptr 12 0, .ptr 13 0, .unk, .unk, .int .i64 ((2 * m : Nat) : Int)] ++ List.replicate 41 .unk ++ [.sl 2 0 4 (.grow 6), .int .i64 (4 : Nat), .int .i64 (0 : Nat)] ++ List.replicate 89 .unk, [some ⟨.ro, scs (2 * m) g⟩, some ⟨.ro, scs (2 * m) h⟩, some ⟨.ro, brs U m c6 c7⟩, some ⟨.ro, scs m (A 0)⟩, some ⟨.ro, scs m (B 0)⟩, some ⟨.ro, scs m (A 1)⟩, some ⟨.ro, scs m (B 1)⟩, some ⟨.ro, scs m (A 2)⟩, some ⟨.ro, scs m (B 2)⟩, some ⟨.ro, scs m (A 3)⟩, some ⟨.ro, scs m (B 3)⟩, some ⟨.rw, lc p ++ (lc q ++ [.sl 0 0 (2 * m) (.grow 4), .sl 1 0 (2 * m) (.grow 4)])⟩, some ⟨.rw, lc l⟩, some ⟨.rw, lc r⟩]⟩) rfl (by simp) ?_ (uniq_nodup' (by decide)) ?_ (run_for (fun i => ⟨[.unk, .unk, .unk, .sl 2 0 4 (.grow 6), .ptr 11 0, .ptr 12 0, .ptr 13 0, .unk, .unk, .int .i64 ((2 * m : Nat) : Int)] ++ List.replicate 41 .unk ++ [.sl 2 0 4 (.grow 6), .int .i64 (4 : Nat), .int .i64 (i : Nat)] ++ List.replicate 89 .unk, [some ⟨.ro, scs (2 * m) g⟩, some ⟨.ro, scs (2 * m) h⟩, some ⟨.ro, brs U m c6 c7⟩, some ⟨.ro, scs m (A 0)⟩, some ⟨.ro, scs m (B 0)⟩, some ⟨.ro, scs m (A 1)⟩, some ⟨.ro, scs m (B 1)⟩, some ⟨.ro, scs m (A 2)⟩, some ⟨.ro, scs m (B 2)⟩, some ⟨.ro, scs m (A 3)⟩, some ⟨.ro, scs m (B 3)⟩, some ⟨.rw, lc p ++ (lc q ++ [.sl 0 0 (2 * m) (.grow 4), .sl 1 0 (2 * m) (.grow 4)])⟩, some ⟨.rw, lc l⟩, some ⟨.rw, lc r⟩]⟩) 4 (fun i hi ih => ?_) ?_)
  · exact gh_fit p q l r U g h A B m c6 c7 [] _
  · simp only [go_sem, fit, ren, gmap, true_or, or_true]
  · have h0 : ((i : Int) < 4) = True := eq_true (by omega)
    have hw : IntKind.i64.wrap ((i : Int) + 1) = ((i + 1 : Nat) : Int) := by rw [wrap_i64 (by omega) (by omega)]; omega
    have g1 := brs_get U m c6 c7 hi
    refine run_loop_eq v20_12.eq_1 ?_
    refine run_driveS 80 ?_
    simp only [go_sem, v20_6, v20_10, v20_7, h0, g1]
    refine run_driveS 80 ?_
    simp only [go_sem, v20_8, hwm]
    refine run_cond_f (by rfl) ?_
    refine run_driveS 80 ?_
    simp only [go_sem, v20_11, hw]
    refine run_rename [0, 1, 2, 3, 4, 5, 6, 7, 8, 9, 10, 11, 12, 13] rfl (by simp) ?_ (uniq_nodup' (by decide)) ?_ ih
    · exact gh_fit p q l r U g h A B m c6 c7 [some ⟨.rw, brc U m c6 c7 i⟩] _
    · simp only [go_sem, fit, ren, gmap, true_or, or_true]
  · refine run_loop_eq v20_12.eq_1 ?_
    refine run_driveS 80 ?_
    simp only [go_sem, v20_6]
    refine run_exit rfl ?_
    refine run_driveS 80 ?_
    simp only [go_sem, v20_14, v20_22]
    refine run_rename [0, 1, 2, 3, 4, 5, 6, 7, 8, 9, 10, 11, 12, 13] (st' := ⟨[.unk, .unk, .unk, .sl 2 0 4 (.grow 6), .ptr 11 0, .ptr 12 0, .ptr 13 0, .unk, .unk, .int .i64 ((2 * m : Nat) : Int)] ++ List.replicate 62 .unk ++ [.sl 2 0 4 (.grow 6), .int .i64 (4 : Nat), .int .i64 (0 : Nat)] ++ List.replicate 68 .unk, [some ⟨.ro, scs (2 * m) g⟩, some ⟨.ro, scs (2 * m) h⟩, some ⟨.ro, brs U m c6 c7⟩, some ⟨.ro, scs m (A 0)⟩, some ⟨.ro, scs m (B 0)⟩, some ⟨.ro, scs m (A 1)⟩, some ⟨.ro, scs m (B 1)⟩, some ⟨.ro, scs m (A 2)⟩, some ⟨.ro, scs m (B 2)⟩, some ⟨.ro, scs m (A 3)⟩, some ⟨.ro, scs m (B 3)⟩, some ⟨.rw, lc p ++ (lc q ++ [.sl 0 0 (2 * m) (.grow 4), .sl 1 0 (2 * m) (.grow 4)])⟩, some ⟨.rw, lc l⟩, some ⟨.rw, lc r⟩]⟩) rfl (by simp) ?_ (uniq_nodup' (by decide)) ?_ (given_l2 hG p q l r hp hq hl hr U hU g h hg hh A B hA hB m hm hm4 hpw c6 c7 nz un hn hQ)
    · exact gh_fit p q l r U g h A B m c6 c7 [] _
    · simp only [go_sem, fit, ren, gmap, true_or, or_true]
end
section
attribute [local go_sem ↓] lc_len lc_take lc_drop lc_known lc_one lc_rens lc_cells lw_known lw_agg lw_asG scs_known scs_one scs_len lc_take_add lc_drop_add
attribute [local go_sem] lt_nat lt_natl lt_lnat lt_ll bool_tf bool_ft
set_option maxRecDepth 100000
set_option maxHeartbeats 2000000
noncomputable def tld (u : Nat) (a b : Nat → Nat) (m : Nat) (j : Nat) : Nat := if j = 0 then inn a b m else if j < 1 + m then linv u * a (j - 1) % ell else if j < 1 + 2 * m then u * a (j - 1 - m) % ell else if j < 1 + 3 * m then u * b (j - 1 - 2 * m) % ell else linv u * b (j - 1 - 3 * m) % ell
def tdv (L : Nat) : V := if L = 1 then .sl 2 0 1 (.exact 1) else .sl 2 0 L (.grow 4)
def tdb (f : Nat → Nat) (L : Nat) : Option Blk := some ⟨if L = 1 then .rw else .grow, scs L f⟩
def prt (k0 k1 : Nat) (sa sb : V) : List V := lc k1 ++ [sa] ++ (lc k0 ++ [sa]) ++ (lc k0 ++ [sb]) ++ (lc k1 ++ [sb])
section
variable (k k' k2 k3 : Nat) (s s' s2 s3 x0 x1 x2 x3 x4 : V) (r : List V)
theorem q5 : List.take 5 (lc k ++ [s] ++ r) = lc k ++ [s] := rfl
theorem q10 : List.take 10 (lc k ++ [s] ++ (lc k' ++ [s']) ++ r) = lc k ++ [s] ++ (lc k' ++ [s']) := rfl
theorem q15 : List.take 15 (lc k ++ [s] ++ (lc k' ++ [s']) ++ (lc k2 ++ [s2]) ++ r) = lc k ++ [s] ++ (lc k' ++ [s']) ++ (lc k2 ++ [s2]) := rfl
theorem p10 : List.drop 10 (lc k ++ [s] ++ (x0 :: x1 :: x2 :: x3 :: x4 :: r)) = r := rfl
theorem p15 : List.drop 15 (lc k ++ [s] ++ (lc k' ++ [s']) ++ (x0 :: x1 :: x2 :: x3 :: x4 :: r)) = r := rfl
theorem p20 : List.drop 20 (lc k ++ [s] ++ (lc k' ++ [s']) ++ (lc k2 ++ [s2]) ++ (x0 :: x1 :: x2 :: x3 :: x4 :: r)) = r := rfl
theorem prt_len : (prt k k' s s').length = 20 := rfl
theorem prt0 : (prt k k' s s').take 5 = lc k' ++ [s] := rfl
theorem prt1 : ((prt k k' s s').drop 5).take 5 = lc k ++ [s] := rfl
theorem prt2 : ((prt k k' s s').drop 10).take 5 = lc k ++ [s'] := rfl
theorem prt3 : ((prt k k' s s').drop 15).take 5 = lc k' ++ [s'] := rfl
theorem w5 : List.take 5 (lc k ++ [s]) = lc k ++ [s] := rfl
theorem v5w : List.drop 5 (lc k ++ [s]) = [] := rfl
theorem u5 : List.drop 4 (lc k ++ [s]) = [s] := rfl
end
theorem prt_rens (k k' : Nat) (s s' : V) (f : Nat → Nat) : rens f (prt k k' s s') = prt k k' (ren f s) (ren f s') := by
  simp only [prt, rens_append, lc_rens, rens]
theorem tdv_ren (L : Nat) (f : Nat → Nat) (h : f 2 = 2) : ren f (tdv L) = tdv L := by unfold tdv; split <;> simp only [ren, h]
theorem tdv_pos {L : Nat} (h : 1 < L) : tdv L = .sl 2 0 L (.grow 4) := if_neg (by omega)
theorem tdb_pos {f : Nat → Nat} {L : Nat} (h : 1 < L) : tdb f L = some ⟨.grow, scs L f⟩ := by unfold tdb; rw [if_neg (by omega)]
theorem tdb_bfit (g : Nat → Nat) (f : Nat → Nat) (L : Nat) : bfit g (tdb f L) (tdb f L) := jb_g (scs_rens ..)
theorem tld_0 (u : Nat) (a b : Nat → Nat) (m : Nat) : tld u a b m 0 = inn a b m := if_pos rfl
theorem tld_1 (u : Nat) (a b : Nat → Nat) {m j : Nat} (h : j < m) : tld u a b m (1 + 0 * m + j) = linv u * a j % ell := by
  unfold tld; rw [if_neg (by omega), if_pos (by omega), show 1 + 0 * m + j - 1 = j by omega]
theorem tld_2 (u : Nat) (a b : Nat → Nat) {m j : Nat} (h : j < m) : tld u a b m (1 + 1 * m + j) = u * a j % ell := by
  unfold tld; rw [if_neg (by omega), if_neg (by omega), if_pos (by omega), show 1 + 1 * m + j - 1 - m = j by omega]
theorem tld_3 (u : Nat) (a b : Nat → Nat) {m j : Nat} (h : j < m) : tld u a b m (1 + 2 * m + j) = u * b j % ell := by
  unfold tld; rw [if_neg (by omega), if_neg (by omega), if_neg (by omega), if_pos (by omega), show 1 + 2 * m + j - 1 - 2 * m = j by omega]
theorem tld_4 (u : Nat) (a b : Nat → Nat) {m j : Nat} (h : j < m) : tld u a b m (1 + 3 * m + j) = linv u * b j % ell := by
  unfold tld; rw [if_neg (by omega), if_neg (by omega), if_neg (by omega), if_neg (by omega), show 1 + 3 * m + j - 1 - 3 * m = j by omega]
theorem told_ (hG : G 0 = tbl) (u : Nat) (hu : u < 115792089237316195423570985008687907853269984665640564039457584007913129639936) (a b : Nat → Nat) (ha : ∀ j, a j < 115792089237316195423570985008687907853269984665640564039457584007913129639936) (hb : ∀ j, b j < 115792089237316195423570985008687907853269984665640564039457584007913129639936) (m : Nat) (hm : 0 < m) (hm4 : m ≤ 4) (ca cb : Cap) {Q : V → Heap → Prop}
    (hQ : Q (.sl 2 0 (1 + 4 * m) (.grow 4)) [some ⟨.ro, scs m a⟩, some ⟨.ro, scs m b⟩, some ⟨.grow, scs (1 + 4 * m) (tld u a b m)⟩]) :
    VCall Tryd.prog G 21 [.agg (lc u ++ [.sl 0 0 m ca, .sl 1 0 m cb])] [some ⟨.ro, scs m a⟩, some ⟨.ro, scs m b⟩] Q := by
  have hv : linv u < 115792089237316195423570985008687907853269984665640564039457584007913129639936 := Nat.lt_trans (linv_lt _) ell_lt
  have r4 : ∀ (u : Nat) (x y : V), ((lc u ++ [x, y]).drop 4).take 1 = [x] := fun _ _ _ => rfl
  have r5 : ∀ (u : Nat) (x y : V), ((lc u ++ [x, y]).drop 5).take 1 = [y] := fun _ _ _ => rfl
  have z0 : ∀ f : Nat → Nat, ∀ j, j < m → ((scs m f).drop (0 + j * 4)).take 4 = lc (f j) := fun f j hj => by rw [Nat.zero_add]; exact scs_get' m f hj
  refine vcall_body Tryd.func21 nm21 code21 nt21 ?_
  refine run_driveS 80 ?_
  simp only [go_sem, v21, v21_0, v21_1]
  refine run_call' rfl ?_
  simp only [go_sem, calV]
  refine invert' hG u hu ?_
  refine run_driveS 80 ?_
  simp only [go_sem, v21_2, r4, r5]
  refine run_call' rfl ?_
  simp only [go_sem, calV]
  refine vcall_at (inner_ hG a b m (fun j _ => ha j) (fun j _ => hb j) (by omega) (scs m a) (scs m b) 0 0 (z0 _) (z0 _) (fun f => scs_rens ..) (fun f => scs_rens ..) ca cb (Q := fun v k => v = .tup [lw (inn a b m), .int .i64 0] ∧ k = [none, none]) ⟨rfl, rfl⟩) [0, 1] (by simp) ?_ (uniq_nodup' (by decide)) ?_ ?_
  · exact hfit_cons rfl (jb_ro (scs_rens ..)) (hfit_cons rfl (jb_ro (scs_rens ..)) hfit_nil)
  · simp only [rens, ren, gmap]
  rintro v k ⟨rfl, rfl⟩
  rw [puts_ro (by simp [wrB]) rfl (by simp)]
  simp only [List.drop_succ_cons, List.drop_zero, List.length_cons, List.length_nil, List.map_nil, List.append_nil, Nat.reduceAdd, lw_plain, ren, rens]
  refine run_driveS 80 ?_
  simp only [go_sem, v21_3]
  refine run_driveS 80 ?_
  simp only [go_sem, v21_4, v21_18, r4, r5, q5, q10, q15, p10, p15, p20]
  refine run_rename [0, 1, 5, 6] (st' := ⟨List.replicate 6 .unk ++ [tdv (1 + 0 * m)] ++ List.replicate 35 .unk ++ [.sl 3 0 4 (.exact 4), .int .i64 (4 : Nat), .int .i64 (0 : Nat)] ++ List.replicate 20 .unk, [some ⟨.ro, scs m a⟩, some ⟨.ro, scs m b⟩, tdb (tld u a b m) (1 + 0 * m), some ⟨.rw, prt u (linv u) (.sl 0 0 m ca) (.sl 1 0 m cb)⟩]⟩) rfl (by simp) ?_ (uniq_nodup' (by decide)) ?_ ?_
  · refine (hfit_cons rfl (jb_g (scs_rens ..)) (hfit_cons rfl (jb_g (scs_rens ..)) (hfit_cons rfl ?_ (hfit_cons rfl (jb_g (by rw [prt_rens]; rfl)) hfit_nil))))
    rw [show tdb (tld u a b m) (1 + 0 * m) = some ⟨.rw, lc (inn a b m)⟩ by rw [Nat.zero_mul]; rfl]
    exact jb_g (lc_rens ..)
  · rw [show tdv (1 + 0 * m) = .sl 2 0 1 (.exact 1) by rw [Nat.zero_mul]; rfl]
    simp only [go_sem, fit, ren, gmap, true_or, or_true]
  refine run_loop_eq v21_17.eq_1 ?_
  refine run_driveS 80 ?_
  simp only [go_sem, v21_5, v21_15, v21_6, v21_7, v21_14, prt_len, prt0, w5, v5w, u5]
  refine run_rename [0, 1, 2, 3, 4] (st' := ⟨List.replicate 6 .unk ++ [tdv (1 + 0 * m + 0), .unk, .ptr 4 0] ++ List.replicate 33 .unk ++ [.sl 3 0 4 (.exact 4), .int .i64 (4 : Nat), .int .i64 (0 : Nat)] ++ List.replicate 4 .unk ++ [.sl 0 0 m ca, .int .i64 m, .int .i64 (0 : Nat)] ++ List.replicate 13 .unk, [some ⟨.ro, scs m a⟩, some ⟨.ro, scs m b⟩, tdb (tld u a b m) (1 + 0 * m + 0), some ⟨.rw, prt u (linv u) (.sl 0 0 m ca) (.sl 1 0 m cb)⟩, some ⟨.rw, lc (linv u) ++ [.sl 0 0 m ca]⟩]⟩) rfl (by simp) ?_ (uniq_nodup' (by decide)) ?_ (run_for (fun j => ⟨List.replicate 6 .unk ++ [tdv (1 + 0 * m + j), .unk, .ptr 4 0] ++ List.replicate 33 .unk ++ [.sl 3 0 4 (.exact 4), .int .i64 (4 : Nat), .int .i64 (0 : Nat)] ++ List.replicate 4 .unk ++ [.sl 0 0 m ca, .int .i64 m, .int .i64 (j : Nat)] ++ List.replicate 13 .unk, [some ⟨.ro, scs m a⟩, some ⟨.ro, scs m b⟩, tdb (tld u a b m) (1 + 0 * m + j), some ⟨.rw, prt u (linv u) (.sl 0 0 m ca) (.sl 1 0 m cb)⟩, some ⟨.rw, lc (linv u) ++ [.sl 0 0 m ca]⟩]⟩) m (fun j hj jh => ?_) ?_)
  · exact (hfit_cons rfl (jb_g (scs_rens ..)) (hfit_cons rfl (jb_g (scs_rens ..)) (hfit_cons rfl (tdb_bfit ..) (hfit_cons rfl (jb_g (by rw [prt_rens]; rfl)) (hfit_cons rfl (jb_g (by simp only [rens_append, lc_rens]; rfl)) hfit_nil)))))
  · simp only [go_sem, fit, ren, gmap, true_or, or_true]
    exact .inr (tdv_ren _ _ rfl).symm
  · by_cases hj0 : j = 0
    · skip
      have h1 : ((j : Int) < (m : Int)) = True := eq_true (by omega)
      have hwj : IntKind.i64.wrap ((j : Int) + 1) = ((j + 1 : Nat) : Int) := by rw [wrap_i64 (by omega) (by omega)]; omega
      have g1 := scs_get' m a (i := j) hj
      have hval := tld_1 u a b hj
      subst hj0
      have h1' : ((0 : Int) < (m : Int)) = True := eq_true (by omega)
      rw [Nat.zero_mul, List.drop_zero] at g1
      rw [show tdv (1 + 0 * m + 0) = .sl 2 0 1 (.exact 1) by rw [Nat.zero_mul]; rfl, show tdb (tld u a b m) (1 + 0 * m + 0) = some ⟨.rw, lc (inn a b m)⟩ by rw [Nat.zero_mul]; rfl]
      have a3 : lc (inn a b m) ++ lc (linv u * a 0 % ell) = scs 2 (tld u a b m) := by
        rw [← tld_0 u a b m]
        rw [Nat.zero_mul] at hval
        exact scs_snoc 1 (tld u a b m) hval
      refine run_loop_eq v21_13.eq_1 ?_
      refine run_driveS 80 ?_
      simp only [go_sem, v21_8, v21_11, v21_9, v21_10, h1', g1, w5, v5w, u5]
      refine run_call' rfl ?_
      simp only [go_sem, calV]
      refine mul' hG _ _ hv (ha 0) ?_
      refine run_driveS 80 ?_
      simp only [go_sem, v21_12, a3]
      rw [show 1 + 0 * m + (0 + 1) = 2 by omega, tdv_pos (by decide), tdb_pos (by decide)] at jh
      refine run_rename [0, 1, 7, 3, 4] rfl (by simp) ?_ (uniq_nodup' (by decide)) ?_ jh
      · exact (hfit_cons rfl (jb_g (scs_rens ..)) (hfit_cons rfl (jb_g (scs_rens ..)) (hfit_cons rfl (jb_g (scs_rens ..)) (hfit_cons rfl (jb_g (by rw [prt_rens]; rfl)) (hfit_cons rfl (jb_g (by simp only [rens_append, lc_rens]; rfl)) hfit_nil)))))
      · simp only [go_sem, fit, ren, gmap, true_or, or_true]
    · skip
      have h1 : ((j : Int) < (m : Int)) = True := eq_true (by omega)
      have hwj : IntKind.i64.wrap ((j : Int) + 1) = ((j + 1 : Nat) : Int) := by rw [wrap_i64 (by omega) (by omega)]; omega
      have g1 := scs_get' m a (i := j) hj
      have hval := tld_1 u a b hj
      have hL : 1 < (1 + 0 * m + j) := by omega
      rw [tdv_pos hL, tdb_pos hL]
      have a1 : (((1 + 0 * m + j) + 1) * 32 ≤ 140737488355328) = True := eq_true (by omega)
      have a2 : ((1 + 0 * m + j) + 1 ≤ 9223372036854775807) = True := eq_true (by omega)
      have a3 := scs_snoc (1 + 0 * m + j) (tld u a b m) hval
      refine run_loop_eq v21_13.eq_1 ?_
      refine run_driveS 80 ?_
      simp only [go_sem, v21_8, v21_11, v21_9, v21_10, h1, g1, w5, v5w, u5]
      refine run_call' rfl ?_
      simp only [go_sem, calV]
      refine mul' hG _ _ hv (ha j) ?_
      refine run_driveS 80 ?_
      simp only [go_sem, v21_12, hwj, a1, a2, a3]
      rw [show 1 + 0 * m + (j + 1) = 1 + 0 * m + j + 1 by omega, tdv_pos (by omega), tdb_pos (by omega)] at jh
      refine run_rename [0, 1, 7, 3, 4] rfl (by simp) ?_ (uniq_nodup' (by decide)) ?_ jh
      · exact (hfit_cons rfl (jb_g (scs_rens ..)) (hfit_cons rfl (jb_g (scs_rens ..)) (hfit_cons rfl (jb_g (scs_rens ..)) (hfit_cons rfl (jb_g (by rw [prt_rens]; rfl)) (hfit_cons rfl (jb_g (by simp only [rens_append, lc_rens]; rfl)) hfit_nil)))))
      · simp only [go_sem, fit, ren, gmap, true_or, or_true]
  · have h1 : ((m : Int) < (m : Int)) = False := eq_false (by omega)
    refine run_loop_eq v21_13.eq_1 ?_
    refine run_driveS 80 ?_
    simp only [go_sem, v21_8, h1]
    refine run_exit rfl ?_
    refine run_driveS 80 ?_
    simp only [go_sem, v21_16]
    rw [show 1 + 0 * m + m = 1 + 1 * m by omega]
    refine run_rename [0, 1, 2, 3] (st' := ⟨List.replicate 6 .unk ++ [tdv (1 + 1 * m)] ++ List.replicate 35 .unk ++ [.sl 3 0 4 (.exact 4), .int .i64 (4 : Nat), .int .i64 (1 : Nat)] ++ List.replicate 20 .unk, [some ⟨.ro, scs m a⟩, some ⟨.ro, scs m b⟩, tdb (tld u a b m) (1 + 1 * m), some ⟨.rw, prt u (linv u) (.sl 0 0 m ca) (.sl 1 0 m cb)⟩]⟩) rfl (by simp) ?_ (uniq_nodup' (by decide)) ?_ ?_
    · exact (hfit_cons rfl (jb_g (scs_rens ..)) (hfit_cons rfl (jb_g (scs_rens ..)) (hfit_cons rfl (tdb_bfit ..) (hfit_cons rfl (jb_g (by rw [prt_rens]; rfl)) hfit_nil))))
    · simp only [go_sem, fit, ren, gmap, true_or, or_true]
      exact .inr (tdv_ren _ _ rfl).symm
    refine run_loop_eq v21_17.eq_1 ?_
    refine run_driveS 80 ?_
    simp only [go_sem, v21_5, v21_15, v21_6, v21_7, v21_14, prt_len, prt1, w5, v5w, u5]
    refine run_rename [0, 1, 2, 3, 4] (st' := ⟨List.replicate 6 .unk ++ [tdv (1 + 1 * m + 0), .unk, .ptr 4 0] ++ List.replicate 33 .unk ++ [.sl 3 0 4 (.exact 4), .int .i64 (4 : Nat), .int .i64 (1 : Nat)] ++ List.replicate 4 .unk ++ [.sl 0 0 m ca, .int .i64 m, .int .i64 (0 : Nat)] ++ List.replicate 13 .unk, [some ⟨.ro, scs m a⟩, some ⟨.ro, scs m b⟩, tdb (tld u a b m) (1 + 1 * m + 0), some ⟨.rw, prt u (linv u) (.sl 0 0 m ca) (.sl 1 0 m cb)⟩, some ⟨.rw, lc (u) ++ [.sl 0 0 m ca]⟩]⟩) rfl (by simp) ?_ (uniq_nodup' (by decide)) ?_ (run_for (fun j => ⟨List.replicate 6 .unk ++ [tdv (1 + 1 * m + j), .unk, .ptr 4 0] ++ List.replicate 33 .unk ++ [.sl 3 0 4 (.exact 4), .int .i64 (4 : Nat), .int .i64 (1 : Nat)] ++ List.replicate 4 .unk ++ [.sl 0 0 m ca, .int .i64 m, .int .i64 (j : Nat)] ++ List.replicate 13 .unk, [some ⟨.ro, scs m a⟩, some ⟨.ro, scs m b⟩, tdb (tld u a b m) (1 + 1 * m + j), some ⟨.rw, prt u (linv u) (.sl 0 0 m ca) (.sl 1 0 m cb)⟩, some ⟨.rw, lc (u) ++ [.sl 0 0 m ca]⟩]⟩) m (fun j hj jh => ?_) ?_)
    · exact (hfit_cons rfl (jb_g (scs_rens ..)) (hfit_cons rfl (jb_g (scs_rens ..)) (hfit_cons rfl (tdb_bfit ..) (hfit_cons rfl (jb_g (by rw [prt_rens]; rfl)) (hfit_cons rfl (jb_g (by simp only [rens_append, lc_rens]; rfl)) hfit_nil)))))
    · simp only [go_sem, fit, ren, gmap, true_or, or_true]
      exact .inr (tdv_ren _ _ rfl).symm
    · skip
      have h1 : ((j : Int) < (m : Int)) = True := eq_true (by omega)
      have hwj : IntKind.i64.wrap ((j : Int) + 1) = ((j + 1 : Nat) : Int) := by rw [wrap_i64 (by omega) (by omega)]; omega
      have g1 := scs_get' m a (i := j) hj
      have hval := tld_2 u a b hj
      have hL : 1 < (1 + 1 * m + j) := by omega
      rw [tdv_pos hL, tdb_pos hL]
      have a1 : (((1 + 1 * m + j) + 1) * 32 ≤ 140737488355328) = True := eq_true (by omega)
      have a2 : ((1 + 1 * m + j) + 1 ≤ 9223372036854775807) = True := eq_true (by omega)
      have a3 := scs_snoc (1 + 1 * m + j) (tld u a b m) hval
      refine run_loop_eq v21_13.eq_1 ?_
      refine run_driveS 80 ?_
      simp only [go_sem, v21_8, v21_11, v21_9, v21_10, h1, g1, w5, v5w, u5]
      refine run_call' rfl ?_
      simp only [go_sem, calV]
      refine mul' hG _ _ hu (ha j) ?_
      refine run_driveS 80 ?_
      simp only [go_sem, v21_12, hwj, a1, a2, a3]
      rw [show 1 + 1 * m + (j + 1) = 1 + 1 * m + j + 1 by omega, tdv_pos (by omega), tdb_pos (by omega)] at jh
      refine run_rename [0, 1, 7, 3, 4] rfl (by simp) ?_ (uniq_nodup' (by decide)) ?_ jh
      · exact (hfit_cons rfl (jb_g (scs_rens ..)) (hfit_cons rfl (jb_g (scs_rens ..)) (hfit_cons rfl (jb_g (scs_rens ..)) (hfit_cons rfl (jb_g (by rw [prt_rens]; rfl)) (hfit_cons rfl (jb_g (by simp only [rens_append, lc_rens]; rfl)) hfit_nil)))))
      · simp only [go_sem, fit, ren, gmap, true_or, or_true]
    · have h1 : ((m : Int) < (m : Int)) = False := eq_false (by omega)
      refine run_loop_eq v21_13.eq_1 ?_
      refine run_driveS 80 ?_
      simp only [go_sem, v21_8, h1]
      refine run_exit rfl ?_
      refine run_driveS 80 ?_
      simp only [go_sem, v21_16]
      rw [show 1 + 1 * m + m = 1 + 2 * m by omega]
      refine run_rename [0, 1, 2, 3] (st' := ⟨List.replicate 6 .unk ++ [tdv (1 + 2 * m)] ++ List.replicate 35 .unk ++ [.sl 3 0 4 (.exact 4), .int .i64 (4 : Nat), .int .i64 (2 : Nat)] ++ List.replicate 20 .unk, [some ⟨.ro, scs m a⟩, some ⟨.ro, scs m b⟩, tdb (tld u a b m) (1 + 2 * m), some ⟨.rw, prt u (linv u) (.sl 0 0 m ca) (.sl 1 0 m cb)⟩]⟩) rfl (by simp) ?_ (uniq_nodup' (by decide)) ?_ ?_
      · exact (hfit_cons rfl (jb_g (scs_rens ..)) (hfit_cons rfl (jb_g (scs_rens ..)) (hfit_cons rfl (tdb_bfit ..) (hfit_cons rfl (jb_g (by rw [prt_rens]; rfl)) hfit_nil))))
      · simp only [go_sem, fit, ren, gmap, true_or, or_true]
        exact .inr (tdv_ren _ _ rfl).symm
      refine run_loop_eq v21_17.eq_1 ?_
      refine run_driveS 80 ?_
      simp only [go_sem, v21_5, v21_15, v21_6, v21_7, v21_14, prt_len, prt2, w5, v5w, u5]
      refine run_rename [0, 1, 2, 3, 4] (st' := ⟨List.replicate 6 .unk ++ [tdv (1 + 2 * m + 0), .unk, .ptr 4 0] ++ List.replicate 33 .unk ++ [.sl 3 0 4 (.exact 4), .int .i64 (4 : Nat), .int .i64 (2 : Nat)] ++ List.replicate 4 .unk ++ [.sl 1 0 m cb, .int .i64 m, .int .i64 (0 : Nat)] ++ List.replicate 13 .unk, [some ⟨.ro, scs m a⟩, some ⟨.ro, scs m b⟩, tdb (tld u a b m) (1 + 2 * m + 0), some ⟨.rw, prt u (linv u) (.sl 0 0 m ca) (.sl 1 0 m cb)⟩, some ⟨.rw, lc (u) ++ [.sl 1 0 m cb]⟩]⟩) rfl (by simp) ?_ (uniq_nodup' (by decide)) ?_ (run_for (fun j => ⟨List.replicate 6 .unk ++ [tdv (1 + 2 * m + j), .unk, .ptr 4 0] ++ List.replicate 33 .unk ++ [.sl 3 0 4 (.exact 4), .int .i64 (4 : Nat), .int .i64 (2 : Nat)] ++ List.replicate 4 .unk ++ [.sl 1 0 m cb, .int .i64 m, .int .i64 (j : Nat)] ++ List.replicate 13 .unk, [some ⟨.ro, scs m a⟩, some ⟨.ro, scs m b⟩, tdb (tld u a b m) (1 + 2 * m + j), some ⟨.rw, prt u (linv u) (.sl 0 0 m ca) (.sl 1 0 m cb)⟩, some ⟨.rw, lc (u) ++ [.sl 1 0 m cb]⟩]⟩) m (fun j hj jh => ?_) ?_)
      · exact (hfit_cons rfl (jb_g (scs_rens ..)) (hfit_cons rfl (jb_g (scs_rens ..)) (hfit_cons rfl (tdb_bfit ..) (hfit_cons rfl (jb_g (by rw [prt_rens]; rfl)) (hfit_cons rfl (jb_g (by simp only [rens_append, lc_rens]; rfl)) hfit_nil)))))
      · simp only [go_sem, fit, ren, gmap, true_or, or_true]
        exact .inr (tdv_ren _ _ rfl).symm
      · skip
        have h1 : ((j : Int) < (m : Int)) = True := eq_true (by omega)
        have hwj : IntKind.i64.wrap ((j : Int) + 1) = ((j + 1 : Nat) : Int) := by rw [wrap_i64 (by omega) (by omega)]; omega
        have g1 := scs_get' m b (i := j) hj
        have hval := tld_3 u a b hj
        have hL : 1 < (1 + 2 * m + j) := by omega
        rw [tdv_pos hL, tdb_pos hL]
        have a1 : (((1 + 2 * m + j) + 1) * 32 ≤ 140737488355328) = True := eq_true (by omega)
        have a2 : ((1 + 2 * m + j) + 1 ≤ 9223372036854775807) = True := eq_true (by omega)
        have a3 := scs_snoc (1 + 2 * m + j) (tld u a b m) hval
        refine run_loop_eq v21_13.eq_1 ?_
        refine run_driveS 80 ?_
        simp only [go_sem, v21_8, v21_11, v21_9, v21_10, h1, g1, w5, v5w, u5]
        refine run_call' rfl ?_
        simp only [go_sem, calV]
        refine mul' hG _ _ hu (hb j) ?_
        refine run_driveS 80 ?_
        simp only [go_sem, v21_12, hwj, a1, a2, a3]
        rw [show 1 + 2 * m + (j + 1) = 1 + 2 * m + j + 1 by omega, tdv_pos (by omega), tdb_pos (by omega)] at jh
        refine run_rename [0, 1, 7, 3, 4] rfl (by simp) ?_ (uniq_nodup' (by decide)) ?_ jh
        · exact (hfit_cons rfl (jb_g (scs_rens ..)) (hfit_cons rfl (jb_g (scs_rens ..)) (hfit_cons rfl (jb_g (scs_rens ..)) (hfit_cons rfl (jb_g (by rw [prt_rens]; rfl)) (hfit_cons rfl (jb_g (by simp only [rens_append, lc_rens]; rfl)) hfit_nil)))))
        · simp only [go_sem, fit, ren, gmap, true_or, or_true]
      · have h1 : ((m : Int) < (m : Int)) = False := eq_false (by omega)
        refine run_loop_eq v21_13.eq_1 ?_
        refine run_driveS 80 ?_
        simp only [go_sem, v21_8, h1]
        refine run_exit rfl ?_
        refine run_driveS 80 ?_
        simp only [go_sem, v21_16]
        rw [show 1 + 2 * m + m = 1 + 3 * m by omega]
        refine run_rename [0, 1, 2, 3] (st' := ⟨List.replicate 6 .unk ++ [tdv (1 + 3 * m)] ++ List.replicate 35 .unk ++ [.sl 3 0 4 (.exact 4), .int .i64 (4 : Nat), .int .i64 (3 : Nat)] ++ List.replicate 20 .unk, [some ⟨.ro, scs m a⟩, some ⟨.ro, scs m b⟩, tdb (tld u a b m) (1 + 3 * m), some ⟨.rw, prt u (linv u) (.sl 0 0 m ca) (.sl 1 0 m cb)⟩]⟩) rfl (by simp) ?_ (uniq_nodup' (by decide)) ?_ ?_
        · exact (hfit_cons rfl (jb_g (scs_rens ..)) (hfit_cons rfl (jb_g (scs_rens ..)) (hfit_cons rfl (tdb_bfit ..) (hfit_cons rfl (jb_g (by rw [prt_rens]; rfl)) hfit_nil))))
        · simp only [go_sem, fit, ren, gmap, true_or, or_true]
          exact .inr (tdv_ren _ _ rfl).symm
        refine run_loop_eq v21_17.eq_1 ?_
        refine run_driveS 80 ?_
        simp only [go_sem, v21_5, v21_15, v21_6, v21_7, v21_14, prt_len, prt3, w5, v5w, u5]
        refine run_rename [0, 1, 2, 3, 4] (st' := ⟨List.replicate 6 .unk ++ [tdv (1 + 3 * m + 0), .unk, .ptr 4 0] ++ List.replicate 33 .unk ++ [.sl 3 0 4 (.exact 4), .int .i64 (4 : Nat), .int .i64 (3 : Nat)] ++ List.replicate 4 .unk ++ [.sl 1 0 m cb, .int .i64 m, .int .i64 (0 : Nat)] ++ List.replicate 13 .unk, [some ⟨.ro, scs m a⟩, some ⟨.ro, scs m b⟩, tdb (tld u a b m) (1 + 3 * m + 0), some ⟨.rw, prt u (linv u) (.sl 0 0 m ca) (.sl 1 0 m cb)⟩, some ⟨.rw, lc (linv u) ++ [.sl 1 0 m cb]⟩]⟩) rfl (by simp) ?_ (uniq_nodup' (by decide)) ?_ (run_for (fun j => ⟨List.replicate 6 .unk ++ [tdv (1 + 3 * m + j), .unk, .ptr 4 0] ++ List.replicate 33 .unk ++ [.sl 3 0 4 (.exact 4), .int .i64 (4 : Nat), .int .i64 (3 : Nat)] ++ List.replicate 4 .unk ++ [.sl 1 0 m cb, .int .i64 m, .int .i64 (j : Nat)] ++ List.replicate 13 .unk, [some ⟨.ro, scs m a⟩, some ⟨.ro, scs m b⟩, tdb (tld u a b m) (1 + 3 * m + j), some ⟨.rw, prt u (linv u) (.sl 0 0 m ca) (.sl 1 0 m cb)⟩, some ⟨.rw, lc (linv u) ++ [.sl 1 0 m cb]⟩]⟩) m (fun j hj jh => ?_) ?_)
        · exact (hfit_cons rfl (jb_g (scs_rens ..)) (hfit_cons rfl (jb_g (scs_rens ..)) (hfit_cons rfl (tdb_bfit ..) (hfit_cons rfl (jb_g (by rw [prt_rens]; rfl)) (hfit_cons rfl (jb_g (by simp only [rens_append, lc_rens]; rfl)) hfit_nil)))))
        · simp only [go_sem, fit, ren, gmap, true_or, or_true]
          exact .inr (tdv_ren _ _ rfl).symm
        · skip
          have h1 : ((j : Int) < (m : Int)) = True := eq_true (by omega)
          have hwj : IntKind.i64.wrap ((j : Int) + 1) = ((j + 1 : Nat) : Int) := by rw [wrap_i64 (by omega) (by omega)]; omega
          have g1 := scs_get' m b (i := j) hj
          have hval := tld_4 u a b hj
          have hL : 1 < (1 + 3 * m + j) := by omega
          rw [tdv_pos hL, tdb_pos hL]
          have a1 : (((1 + 3 * m + j) + 1) * 32 ≤ 140737488355328) = True := eq_true (by omega)
          have a2 : ((1 + 3 * m + j) + 1 ≤ 9223372036854775807) = True := eq_true (by omega)
          have a3 := scs_snoc (1 + 3 * m + j) (tld u a b m) hval
          refine run_loop_eq v21_13.eq_1 ?_
          refine run_driveS 80 ?_
          simp only [go_sem, v21_8, v21_11, v21_9, v21_10, h1, g1, w5, v5w, u5]
          refine run_call' rfl ?_
          simp only [go_sem, calV]
          refine mul' hG _ _ hv (hb j) ?_
          refine run_driveS 80 ?_
          simp only [go_sem, v21_12, hwj, a1, a2, a3]
          rw [show 1 + 3 * m + (j + 1) = 1 + 3 * m + j + 1 by omega, tdv_pos (by omega), tdb_pos (by omega)] at jh
          refine run_rename [0, 1, 7, 3, 4] rfl (by simp) ?_ (uniq_nodup' (by decide)) ?_ jh
          · exact (hfit_cons rfl (jb_g (scs_rens ..)) (hfit_cons rfl (jb_g (scs_rens ..)) (hfit_cons rfl (jb_g (scs_rens ..)) (hfit_cons rfl (jb_g (by rw [prt_rens]; rfl)) (hfit_cons rfl (jb_g (by simp only [rens_append, lc_rens]; rfl)) hfit_nil)))))
          · simp only [go_sem, fit, ren, gmap, true_or, or_true]
        · have h1 : ((m : Int) < (m : Int)) = False := eq_false (by omega)
          refine run_loop_eq v21_13.eq_1 ?_
          refine run_driveS 80 ?_
          simp only [go_sem, v21_8, h1]
          refine run_exit rfl ?_
          refine run_driveS 80 ?_
          simp only [go_sem, v21_16]
          rw [show 1 + 3 * m + m = 1 + 4 * m by omega, tdv_pos (by omega), tdb_pos (by omega)]
          refine run_loop_eq v21_17.eq_1 ?_
          refine run_driveS 80 ?_
          simp only [go_sem, v21_5]
          refine run_exit rfl ?_
          refine run_driveS 80 ?_
          simp only [go_sem, v21_19]
          exact run_ret_drop Tryd.func21 res21 [0, 1, 2] (.sl 2 0 (1 + 4 * m) (.grow 4)) _ rfl (by simp) (hfit_cons rfl (jb_g (scs_rens ..)) (hfit_cons rfl (jb_g (scs_rens ..)) (hfit_cons rfl (jb_g (scs_rens ..)) hfit_nil))) (uniq_nodup' (by decide)) (by simp only [go_sem, rr21, ren, gmap]) hQ
end
section
attribute [local go_sem ↓] lc_len lc_take lc_drop lc_known lc_one lc_rens lc_cells lw_known lw_agg lw_asG scs_known scs_one scs_len lc_take_add lc_drop_add brc_len brc_known brc_one brc_t6 brc_d6 brc_u brc_a brc_b brs_len brs_known brs_one
attribute [local go_sem] lt_nat lt_natl lt_lnat lt_ll bool_tf bool_ft
set_option maxRecDepth 100000
set_option maxHeartbeats 2000000
theorem mxn_got (n : Nat) (A B : Nat → Nat) {j : Nat} (hj : j < n) : ((scs n (mxf A B (j + 1))).drop (j * 4)).take 4 = lc (A j) := by
  rw [scs_get' n _ hj, show mxf A B (j + 1) j = A j from if_pos (Nat.lt_succ_self j)]
noncomputable def rel4 (u : Nat) (L P R D : Nat → Nat) (y : Nat) : Nat := sb ((((u * u % ell) * L y % ell + P y) % ell + linv (u * u % ell) * R y % ell) % ell) (D y)
def dif (f : Nat → Nat) : Nat → Bool
  | 0 => false
  | j + 1 => dif f j || !decide (f j % ell = 0)
theorem sq3_0 (u : Nat) : (scs 3 (sqf u)).take 4 = lc (u * u % ell) := rfl
theorem sq3_2 (u : Nat) : ((scs 3 (sqf u)).drop 8).take 4 = lc (linv (u * u % ell)) := rfl
theorem gm12 (L : Nat) : ∀ i, i < 11 → gmap [0, 1, 2, 3, 4, 5, 6, 7, 8, 9, 10, 11, 12, 13, 14, 15, 16, 17] L i = i := by
  intro i hi
  match i, hi with
  | 0, _ | 1, _ | 2, _ | 3, _ | 4, _ | 5, _ | 6, _ | 7, _ | 8, _ | 9, _ | 10, _ => rfl
  | n + 11, h => omega
theorem join_end (hG : G 0 = tbl) (p q u : Nat) (hu : u < 115792089237316195423570985008687907853269984665640564039457584007913129639936) (U : Nat → Nat) (g h : Nat → Nat) (A B : Nat → Nat → Nat) (m : Nat) (hm : 0 < m) (hm4 : m ≤ 4) (c6 c7 : Nat → Cap) (L P R D : Nat → Nat) (hL : ∀ j, L j < 115792089237316195423570985008687907853269984665640564039457584007913129639936) (hP : ∀ j, P j < 115792089237316195423570985008687907853269984665640564039457584007913129639936) (hR : ∀ j, R j < 115792089237316195423570985008687907853269984665640564039457584007913129639936) (hD : ∀ j, D j < 115792089237316195423570985008687907853269984665640564039457584007913129639936) {Q : V → Heap → Prop}
    (hQ1 : dif (rel4 u L P R D) (1 + 4 * m) = true → Q (.tup [.nils, .nils, .sl 11 0 (1 + 4 * m) (.exact (1 + 4 * m)), .int .i64 0]) [none, none, none, none, none, none, none, none, none, none, none, some ⟨.rw, scs (1 + 4 * m) (rel4 u L P R D)⟩])
    (hQ2 : dif (rel4 u L P R D) (1 + 4 * m) = false → Q (.tup [.sl 11 4 (2 * m) (.exact (2 * m)), .sl 11 ((1 + 2 * m) * 4) (2 * m) (.exact (2 * m)), .nils, .int .i64 0]) [none, none, none, none, none, none, none, none, none, none, none, some ⟨.rw, scs (1 + 4 * m) P⟩]) :
    RunM Tryd.prog G 10 11 {} Q ([TI.l v10_28, TI.b 2, TI.c (((VC.reg v10_30).seq (VC.cond (Go.Vs.A.t 111) ((VC.reg v10_31).seq VC.ret) VC.skip)).seq ((VC.reg v10_32).seq ((VC.drw v10_33).seq VC.ret)))], ⟨List.replicate 4 .unk ++ [.ptr 11 0] ++ List.replicate 5 .unk ++ [.sl 17 0 (1 + 4 * m) (.exact (1 + 4 * m))] ++ List.replicate 7 .unk ++ [.sl 13 0 (1 + 4 * m) (.exact (1 + 4 * m)), .sl 14 0 (1 + 4 * m) (.exact (1 + 4 * m)), .sl 15 0 (1 + 4 * m) (.exact (1 + 4 * m)), .sl 16 0 3 (.exact 3), .bool (dif (rel4 u L P R D) 0)] ++ List.replicate 44 .unk ++ [.sl 12 0 (1 + 4 * m) (.grow 4), .int .i64 ((1 + 4 * m) : Nat), .int .i64 (0 : Nat)] ++ List.replicate 56 .unk, [some ⟨.ro, scs (2 * m) g⟩, some ⟨.ro, scs (2 * m) h⟩, some ⟨.ro, brs U m c6 c7⟩, some ⟨.ro, scs m (A 0)⟩, some ⟨.ro, scs m (B 0)⟩, some ⟨.ro, scs m (A 1)⟩, some ⟨.ro, scs m (B 1)⟩, some ⟨.ro, scs m (A 2)⟩, some ⟨.ro, scs m (B 2)⟩, some ⟨.ro, scs m (A 3)⟩, some ⟨.ro, scs m (B 3)⟩, some ⟨.rw, lc p ++ (lc q ++ [.sl 0 0 (2 * m) (.grow 4), .sl 1 0 (2 * m) (.grow 4)])⟩, some ⟨.grow, scs (1 + 4 * m) D⟩, some ⟨.rw, scs (1 + 4 * m) L⟩, some ⟨.rw, scs (1 + 4 * m) P⟩, some ⟨.rw, scs (1 + 4 * m) R⟩, some ⟨.rw, scs 3 (sqf u)⟩, some ⟨.rw, scs (1 + 4 * m) (mxf (rel4 u L P R D) (fun _ => 0) 0)⟩]⟩) := by
  have hv : linv (u * u % ell) < 115792089237316195423570985008687907853269984665640564039457584007913129639936 := Nat.lt_trans (linv_lt _) ell_lt
  refine run_for (fun j => ⟨List.replicate 4 .unk ++ [.ptr 11 0] ++ List.replicate 5 .unk ++ [.sl 17 0 (1 + 4 * m) (.exact (1 + 4 * m))] ++ List.replicate 7 .unk ++ [.sl 13 0 (1 + 4 * m) (.exact (1 + 4 * m)), .sl 14 0 (1 + 4 * m) (.exact (1 + 4 * m)), .sl 15 0 (1 + 4 * m) (.exact (1 + 4 * m)), .sl 16 0 3 (.exact 3), .bool (dif (rel4 u L P R D) j)] ++ List.replicate 44 .unk ++ [.sl 12 0 (1 + 4 * m) (.grow 4), .int .i64 ((1 + 4 * m) : Nat), .int .i64 (j : Nat)] ++ List.replicate 56 .unk, [some ⟨.ro, scs (2 * m) g⟩, some ⟨.ro, scs (2 * m) h⟩, some ⟨.ro, brs U m c6 c7⟩, some ⟨.ro, scs m (A 0)⟩, some ⟨.ro, scs m (B 0)⟩, some ⟨.ro, scs m (A 1)⟩, some ⟨.ro, scs m (B 1)⟩, some ⟨.ro, scs m (A 2)⟩, some ⟨.ro, scs m (B 2)⟩, some ⟨.ro, scs m (A 3)⟩, some ⟨.ro, scs m (B 3)⟩, some ⟨.rw, lc p ++ (lc q ++ [.sl 0 0 (2 * m) (.grow 4), .sl 1 0 (2 * m) (.grow 4)])⟩, some ⟨.grow, scs (1 + 4 * m) D⟩, some ⟨.rw, scs (1 + 4 * m) L⟩, some ⟨.rw, scs (1 + 4 * m) P⟩, some ⟨.rw, scs (1 + 4 * m) R⟩, some ⟨.rw, scs 3 (sqf u)⟩, some ⟨.rw, scs (1 + 4 * m) (mxf (rel4 u L P R D) (fun _ => 0) j)⟩]⟩) (1 + 4 * m) (fun j hj jh => ?_) ?_
  · have j0 : ((j : Int) < (((1 + 4 * m) : Nat) : Int)) = True := eq_true (by omega)
    have hw : IntKind.i64.wrap ((j : Int) + 1) = ((j + 1 : Nat) : Int) := by rw [wrap_i64 (by omega) (by omega)]; omega
    have g0 := mxn_get (1 + 4 * m) (rel4 u L P R D) (fun _ => 0) hj
    have g5 := mxn_got (1 + 4 * m) (rel4 u L P R D) (fun _ => 0) hj
    have g1 := scs_get' (1 + 4 * m) L hj
    have g2 := scs_get' (1 + 4 * m) P hj
    have g3 := scs_get' (1 + 4 * m) R hj
    have g4 := scs_get' (1 + 4 * m) D hj
    have in2 : (j * 4 + 4 ≤ (1 + 4 * m) * 4) = True := eq_true (by omega)
    have st := mxn_set (1 + 4 * m) (rel4 u L P R D) (fun _ => 0) hj (v := (((((u * u % ell) * L j % ell + P j) % ell + linv (u * u % ell) * R j % ell) % ell) + (ell - D j % ell)) % ell) rfl
    have hrl : rel4 u L P R D j < 115792089237316195423570985008687907853269984665640564039457584007913129639936 := sb_lt ..
    refine run_loop_eq v10_28.eq_1 ?_
    refine run_driveS 80 ?_
    simp only [go_sem, v10_22, v10_26, v10_23, j0, g4]
    refine run_drw (by kernel_rfl) ?_
    refine drun_drive 40 (p := (_, _)) ?_
    simp only [go_sem, v10_24, j0, g1, g2, g3, g4, sq3_0, sq3_2]
    refine drun_call' ?_
    simp only [go_sem, calV]
    refine mul' hG _ _ (mod_lt _) (hL _) ?_
    refine drun_drive 40 (p := (_, _)) ?_
    simp only [go_sem]
    refine drun_call' ?_
    simp only [go_sem, calV]
    refine add_ hG _ _ (mod_lt _) (hP _) ?_
    refine drun_drive 40 (p := (_, _)) ?_
    simp only [go_sem]
    refine drun_call' ?_
    simp only [go_sem, calV]
    refine mul' hG _ _ hv (hR _) ?_
    refine drun_drive 40 (p := (_, _)) ?_
    simp only [go_sem]
    refine drun_call' ?_
    simp only [go_sem, calV]
    refine add_ hG _ _ (mod_lt _) (mod_lt _) ?_
    refine drun_drive 40 (p := (_, _)) ?_
    simp only [go_sem]
    refine drun_call' ?_
    simp only [go_sem, calV]
    refine sub_ hG _ _ (mod_lt _) (hD _) ?_
    refine drun_drive 40 (p := (_, _)) ?_
    simp only [go_sem, j0, in2, st]
    refine drun_end ?_
    cases hd : dif (rel4 u L P R D) j with
    | true =>
      have e : dif (rel4 u L P R D) (j + 1) = true := by rw [dif, hd]; rfl
      rw [e] at jh
      refine run_driveS 80 ?_
      simp only [go_sem]
      refine run_driveS 80 ?_
      simp only [go_sem, v10_25, v10_27, hw]
      refine run_rename [0, 1, 2, 3, 4, 5, 6, 7, 8, 9, 10, 11, 12, 13, 14, 15, 16, 17] rfl (by simp) ?_ (uniq_nodup' (by decide)) ?_ jh
      · exact hfit_cons rfl (jb_g (scs_rens ..)) (hfit_cons rfl (jb_g (scs_rens ..)) (hfit_cons rfl (jb_g (brs_rens _ _ _ _ _ (gm12 _))) (hfit_cons rfl (jb_g (scs_rens ..)) (hfit_cons rfl (jb_g (scs_rens ..)) (hfit_cons rfl (jb_g (scs_rens ..)) (hfit_cons rfl (jb_g (scs_rens ..)) (hfit_cons rfl (jb_g (scs_rens ..)) (hfit_cons rfl (jb_g (scs_rens ..)) (hfit_cons rfl (jb_g (scs_rens ..)) (hfit_cons rfl (jb_g (scs_rens ..)) (hfit_cons rfl (jb_g (by simp only [rens_append, lc_rens]; rfl)) (hfit_cons rfl (jb_g (scs_rens ..)) (hfit_cons rfl (jb_g (scs_rens ..)) (hfit_cons rfl (jb_g (scs_rens ..)) (hfit_cons rfl (jb_g (scs_rens ..)) (hfit_cons rfl (jb_g (scs_rens ..)) (hfit_cons rfl (jb_g (scs_rens ..)) hfit_nil)))))))))))))))))
      · simp only [go_sem, fit, ren, gmap, true_or, or_true]
    | false =>
      have e : dif (rel4 u L P R D) (j + 1) = !decide (rel4 u L P R D j % ell = 0) := by rw [dif, hd]; rfl
      rw [e] at jh
      refine run_driveS 80 ?_
      simp only [go_sem]
      refine run_driveS 80 ?_
      simp only [go_sem, v10_25, j0, g5]
      refine run_call' rfl ?_
      simp only [go_sem, calV]
      refine is_zero' hG _ hrl ?_
      refine run_driveS 80 ?_
      simp only [go_sem, v10_27, hw]
      refine run_rename [0, 1, 2, 3, 4, 5, 6, 7, 8, 9, 10, 11, 12, 13, 14, 15, 16, 17] rfl (by simp) ?_ (uniq_nodup' (by decide)) ?_ jh
      · exact hfit_cons rfl (jb_g (scs_rens ..)) (hfit_cons rfl (jb_g (scs_rens ..)) (hfit_cons rfl (jb_g (brs_rens _ _ _ _ _ (gm12 _))) (hfit_cons rfl (jb_g (scs_rens ..)) (hfit_cons rfl (jb_g (scs_rens ..)) (hfit_cons rfl (jb_g (scs_rens ..)) (hfit_cons rfl (jb_g (scs_rens ..)) (hfit_cons rfl (jb_g (scs_rens ..)) (hfit_cons rfl (jb_g (scs_rens ..)) (hfit_cons rfl (jb_g (scs_rens ..)) (hfit_cons rfl (jb_g (scs_rens ..)) (hfit_cons rfl (jb_g (by simp only [rens_append, lc_rens]; rfl)) (hfit_cons rfl (jb_g (scs_rens ..)) (hfit_cons rfl (jb_g (scs_rens ..)) (hfit_cons rfl (jb_g (scs_rens ..)) (hfit_cons rfl (jb_g (scs_rens ..)) (hfit_cons rfl (jb_g (scs_rens ..)) (hfit_cons rfl (jb_g (scs_rens ..)) hfit_nil)))))))))))))))))
      · simp only [go_sem, fit, ren, gmap, true_or, or_true]
  · have h1 : ((((1 + 4 * m) : Nat) : Int) < (((1 + 4 * m) : Nat) : Int)) = False := eq_false (by omega)
    refine run_loop_eq v10_28.eq_1 ?_
    refine run_driveS 80 ?_
    simp only [go_sem, v10_22, h1]
    refine run_exit rfl ?_
    rw [mxn_n]
    cases hd : dif (rel4 u L P R D) (1 + 4 * m) with
    | true =>
      refine run_driveS 80 ?_
      simp only [go_sem, v10_30]
      refine run_cond_t (by rfl) ?_
      refine run_driveS 80 ?_
      simp only [go_sem, v10_31]
      exact run_ret_drop Tryd.func10 res10 [0, 1, 2, 3, 4, 5, 6, 7, 8, 9, 10, 17] (.tup [.nils, .nils, .sl 11 0 (1 + 4 * m) (.exact (1 + 4 * m)), .int .i64 0]) [none, none, none, none, none, none, none, none, none, none, none, some ⟨.rw, scs (1 + 4 * m) (rel4 u L P R D)⟩] rfl (by simp) (hfit_cons_none (hfit_cons_none (hfit_cons_none (hfit_cons_none (hfit_cons_none (hfit_cons_none (hfit_cons_none (hfit_cons_none (hfit_cons_none (hfit_cons_none (hfit_cons_none (hfit_cons rfl (jb_g (scs_rens ..)) hfit_nil)))))))))))) (uniq_nodup' (by decide)) (by simp only [go_sem, rr10, ren, rens, gmap]) (hQ1 hd)
    | false =>
      have q1 : IntKind.i64.wrap (1 + ((2 * m : Nat) : Int)) = ((1 + 2 * m : Nat) : Int) := by rw [wrap_i64 (by omega) (by omega)]; omega
      have q2 : ((1 : Int) ≤ ((1 + 2 * m : Nat) : Int)) = True := eq_true (by omega)
      have q3 : (((1 + 2 * m : Nat) : Int) ≤ ((1 + 4 * m : Nat) : Int)) = True := eq_true (by omega)
      have q4 : (((1 + 2 * m : Nat) : Int) = 1) = False := eq_false (by omega)
      have q5 : (((1 + 2 * m : Nat) : Int) = 0) = False := eq_false (by omega)
      have q6 : (((1 + 2 * m : Nat) : Int) - 1).toNat = 2 * m := by omega
      have q7 : (((1 + 4 * m : Nat) : Int) - ((1 + 2 * m : Nat) : Int)).toNat = 2 * m := by omega
      have q8 : (((1 + 4 * m : Nat) : Int) = ((1 + 2 * m : Nat) : Int)) = False := eq_false (by omega)
      have q9 : ((0 : Int) ≤ ((1 + 2 * m : Nat) : Int)) = True := eq_true (by omega)
      have q10 : ((1 : Int) = 0) = False := eq_false (by decide)
      refine run_driveS 80 ?_
      simp only [go_sem, v10_30]
      refine run_cond_f (by rfl) ?_
      refine run_driveS 80 ?_
      simp only [go_sem, v10_32, sd8, sd9]
      refine run_drw (by kernel_rfl) ?_
      refine drun_drive 40 (p := (_, _)) ?_
      simp only [go_sem, v10_33, q1, q2, q3, q4, q5, q6, q7, q8, q9, q10]
      refine drun_end ?_
      refine run_driveS 80 ?_
      simp only [go_sem]
      exact run_ret_drop Tryd.func10 res10 [0, 1, 2, 3, 4, 5, 6, 7, 8, 9, 10, 14] (.tup [.sl 11 4 (2 * m) (.exact (2 * m)), .sl 11 ((1 + 2 * m) * 4) (2 * m) (.exact (2 * m)), .nils, .int .i64 0]) [none, none, none, none, none, none, none, none, none, none, none, some ⟨.rw, scs (1 + 4 * m) P⟩] rfl (by simp) (hfit_cons_none (hfit_cons_none (hfit_cons_none (hfit_cons_none (hfit_cons_none (hfit_cons_none (hfit_cons_none (hfit_cons_none (hfit_cons_none (hfit_cons_none (hfit_cons_none (hfit_cons rfl (jb_g (scs_rens ..)) hfit_nil)))))))))))) (uniq_nodup' (by decide)) (by simp only [go_sem, rr10, ren, rens, gmap]) (hQ2 hd)
end
section
attribute [local go_sem ↓] lc_len lc_take lc_drop lc_known lc_one lc_rens lc_cells lw_known lw_agg lw_asG scs_known scs_one scs_len lc_take_add lc_drop_add brc_len brc_known brc_one brc_t6 brc_d6 brc_u brc_a brc_b brs_len brs_known brs_one
attribute [local go_sem] lt_nat lt_natl lt_lnat lt_ll bool_tf bool_ft
set_option maxRecDepth 100000
set_option maxHeartbeats 2000000
theorem brc0 (U : Nat → Nat) (m : Nat) (c6 c7 : Nat → Cap) : brc U m c6 c7 0 = lc (U 0) ++ [.sl 3 0 m (c6 0), .sl 4 0 m (c7 0)] := rfl
theorem brc1 (U : Nat → Nat) (m : Nat) (c6 c7 : Nat → Cap) : brc U m c6 c7 1 = lc (U 1) ++ [.sl 5 0 m (c6 1), .sl 6 0 m (c7 1)] := rfl
theorem brc2 (U : Nat → Nat) (m : Nat) (c6 c7 : Nat → Cap) : brc U m c6 c7 2 = lc (U 2) ++ [.sl 7 0 m (c6 2), .sl 8 0 m (c7 2)] := rfl
theorem brc3 (U : Nat → Nat) (m : Nat) (c6 c7 : Nat → Cap) : brc U m c6 c7 3 = lc (U 3) ++ [.sl 9 0 m (c6 3), .sl 10 0 m (c7 3)] := rfl
theorem brs0 (U : Nat → Nat) (m : Nat) (c6 c7 : Nat → Cap) : (brs U m c6 c7).take 6 = brc U m c6 c7 0 := rfl
theorem brs1 (U : Nat → Nat) (m : Nat) (c6 c7 : Nat → Cap) : ((brs U m c6 c7).drop 6).take 6 = brc U m c6 c7 1 := rfl
theorem brs2 (U : Nat → Nat) (m : Nat) (c6 c7 : Nat → Cap) : ((brs U m c6 c7).drop 12).take 6 = brc U m c6 c7 2 := rfl
theorem brs3 (U : Nat → Nat) (m : Nat) (c6 c7 : Nat → Cap) : ((brs U m c6 c7).drop 18).take 6 = brc U m c6 c7 3 := rfl
def x3 (x0 x1 x2 : Nat → Nat) (w : Nat) : Nat → Nat := if w = 0 then x0 else if w = 1 then x1 else x2
theorem x3_lt {x0 x1 x2 : Nat → Nat} (h0 : ∀ j, x0 j < 115792089237316195423570985008687907853269984665640564039457584007913129639936) (h1 : ∀ j, x1 j < 115792089237316195423570985008687907853269984665640564039457584007913129639936) (h2 : ∀ j, x2 j < 115792089237316195423570985008687907853269984665640564039457584007913129639936) (w j : Nat) : x3 x0 x1 x2 w j < 115792089237316195423570985008687907853269984665640564039457584007913129639936 := by
  unfold x3; split
  · exact h0 j
  · split
    · exact h1 j
    · exact h2 j
theorem sqf_lt (u j : Nat) : sqf u j < 115792089237316195423570985008687907853269984665640564039457584007913129639936 := by
  unfold sqf; split
  · exact mod_lt _
  · split
    · decide
    · exact Nat.lt_trans (linv_lt _) ell_lt
theorem tld_lt (u : Nat) (a b : Nat → Nat) (m j : Nat) : tld u a b m j < 115792089237316195423570985008687907853269984665640564039457584007913129639936 := by
  unfold tld
  split
  · exact inn_lt ..
  · split
    · exact mod_lt _
    · split
      · exact mod_lt _
      · split
        · exact mod_lt _
        · exact mod_lt _
theorem gm12b (L : Nat) : ∀ i, i < 11 → gmap [0, 1, 2, 3, 4, 5, 6, 7, 8, 9, 10, 11, 20, 21, 22, 23, 24, 25] L i = i := by
  intro i hi
  match i, hi with
  | 0, _ | 1, _ | 2, _ | 3, _ | 4, _ | 5, _ | 6, _ | 7, _ | 8, _ | 9, _ | 10, _ => rfl
  | n + 11, h => omega
theorem gm12c (L : Nat) : ∀ i, i < 11 → gmap [0, 1, 2, 3, 4, 5, 6, 7, 8, 9, 10, 11, 14, 15, 18, 21, 24, 17, 20, 23, 26] L i = i := by
  intro i hi
  match i, hi with
  | 0, _ | 1, _ | 2, _ | 3, _ | 4, _ | 5, _ | 6, _ | 7, _ | 8, _ | 9, _ | 10, _ => rfl
  | n + 11, h => omega
theorem join_mid (hG : G 0 = tbl) (p q : Nat) (U : Nat → Nat) (hU : ∀ j, U j < 115792089237316195423570985008687907853269984665640564039457584007913129639936) (g h : Nat → Nat) (A B : Nat → Nat → Nat) (hA : ∀ i j, A i j < 115792089237316195423570985008687907853269984665640564039457584007913129639936) (hB : ∀ i j, B i j < 115792089237316195423570985008687907853269984665640564039457584007913129639936) (m : Nat) (hm : 0 < m) (hm4 : m ≤ 4) (c6 c7 : Nat → Cap)
    (hs : ∀ wh, wh < 3 → ∀ x, Go.VsP.Sol (fun c j => Go.VsP.ph (aug (fun c j => sqf (U j) c) (wnt wh) c j)) 0 x → x 0 = 0 ∧ x 1 = 0 ∧ x 2 = 0) {Q : V → Heap → Prop}
    (hQ : ∀ x : Nat → Nat → Nat, (∀ w j, x w j < 115792089237316195423570985008687907853269984665640564039457584007913129639936) → (∀ wh, wh < 3 → Go.VsP.Sol (fun c j => Go.VsP.ph (aug (fun c j => sqf (U j) c) (wnt wh) c j)) 1 (fun j => Go.VsP.ph (x wh j))) →
      (dif (rel4 (U 3) (kac (x 0) (fun i => tld (U i) (A i) (B i) m) 3) (kac (x 1) (fun i => tld (U i) (A i) (B i) m) 3) (kac (x 2) (fun i => tld (U i) (A i) (B i) m) 3) (tld (U 3) (A 3) (B 3) m)) (1 + 4 * m) = true → Q (.tup [.nils, .nils, .sl 11 0 (1 + 4 * m) (.exact (1 + 4 * m)), .int .i64 0]) [none, none, none, none, none, none, none, none, none, none, none, some ⟨.rw, scs (1 + 4 * m) (rel4 (U 3) (kac (x 0) (fun i => tld (U i) (A i) (B i) m) 3) (kac (x 1) (fun i => tld (U i) (A i) (B i) m) 3) (kac (x 2) (fun i => tld (U i) (A i) (B i) m) 3) (tld (U 3) (A 3) (B 3) m))⟩]) ∧
      (dif (rel4 (U 3) (kac (x 0) (fun i => tld (U i) (A i) (B i) m) 3) (kac (x 1) (fun i => tld (U i) (A i) (B i) m) 3) (kac (x 2) (fun i => tld (U i) (A i) (B i) m) 3) (tld (U 3) (A 3) (B 3) m)) (1 + 4 * m) = false → Q (.tup [.sl 11 4 (2 * m) (.exact (2 * m)), .sl 11 ((1 + 2 * m) * 4) (2 * m) (.exact (2 * m)), .nils, .int .i64 0]) [none, none, none, none, none, none, none, none, none, none, none, some ⟨.rw, scs (1 + 4 * m) (kac (x 1) (fun i => tld (U i) (A i) (B i) m) 3)⟩])) : RunM Tryd.prog G 10 11 {} Q ([TI.c ((VC.reg v10_16).seq ((VC.reg v10_17).seq ((VC.reg v10_18).seq ((VC.reg v10_19).seq ((VC.reg v10_20).seq (((VC.reg v10_21).seq (VC.block 2 v10_29)).seq (((VC.reg v10_30).seq (VC.cond (Go.Vs.A.t 111) ((VC.reg v10_31).seq VC.ret) VC.skip)).seq ((VC.reg v10_32).seq ((VC.drw v10_33).seq VC.ret)))))))))], ⟨List.replicate 3 .unk ++ [.sl 2 0 4 (.grow 6), .ptr 11 0] ++ List.replicate 8 .unk ++ [.ptr 12 0, .ptr 13 0] ++ List.replicate 111 .unk, [some ⟨.ro, scs (2 * m) g⟩, some ⟨.ro, scs (2 * m) h⟩, some ⟨.ro, brs U m c6 c7⟩, some ⟨.ro, scs m (A 0)⟩, some ⟨.ro, scs m (B 0)⟩, some ⟨.ro, scs m (A 1)⟩, some ⟨.ro, scs m (B 1)⟩, some ⟨.ro, scs m (A 2)⟩, some ⟨.ro, scs m (B 2)⟩, some ⟨.ro, scs m (A 3)⟩, some ⟨.ro, scs m (B 3)⟩, some ⟨.rw, lc p ++ (lc q ++ [.sl 0 0 (2 * m) (.grow 4), .sl 1 0 (2 * m) (.grow 4)])⟩, some ⟨.rw, [.sl 14 0 3 (.exact 3), .sl 15 0 3 (.exact 3), .sl 16 0 3 (.exact 3)]⟩, some ⟨.rw, [.sl 17 0 (1 + 4 * m) (.grow 4), .sl 18 0 (1 + 4 * m) (.grow 4), .sl 19 0 (1 + 4 * m) (.grow 4), .sl 20 0 (1 + 4 * m) (.grow 4)]⟩, some ⟨.rw, scs 3 (sqf (U 0))⟩, some ⟨.rw, scs 3 (sqf (U 1))⟩, some ⟨.rw, scs 3 (sqf (U 2))⟩, some ⟨.grow, scs (1 + 4 * m) (tld (U 0) (A 0) (B 0) m)⟩, some ⟨.grow, scs (1 + 4 * m) (tld (U 1) (A 1) (B 1) m)⟩, some ⟨.grow, scs (1 + 4 * m) (tld (U 2) (A 2) (B 2) m)⟩, some ⟨.grow, scs (1 + 4 * m) (tld (U 3) (A 3) (B 3) m)⟩]⟩) := by
  refine run_driveS 80 ?_
  simp only [go_sem, v10_16]
  refine run_driveS 80 ?_
  simp only [go_sem, v10_17]
  refine run_call' rfl ?_
  simp only [go_sem, calV]
  refine vcall_at (known_ hG 0 (by decide) (fun i => sqf (U i)) (fun i => tld (U i) (A i) (B i) m) (fun i j => sqf_lt ..) (fun i j => tld_lt ..) (1 + 4 * m) (by omega) (by omega) (hs 0 (by decide)) (Q := fun v k => ∃ x : Nat → Nat, (∀ j, x j < 115792089237316195423570985008687907853269984665640564039457584007913129639936) ∧ Go.VsP.Sol (fun c j => Go.VsP.ph (aug (fun c j => sqf (U j) c) (wnt 0) c j)) 1 (fun j => Go.VsP.ph (x j)) ∧ v = .sl 9 0 (1 + 4 * m) (.exact (1 + 4 * m)) ∧ k = [none, none, none, none, none, none, none, none, none, some ⟨.rw, scs (1 + 4 * m) (kac x (fun i => tld (U i) (A i) (B i) m) 3)⟩]) fun x a b => ⟨x, a, b, rfl, rfl⟩) [12, 13, 14, 15, 16, 17, 18, 19, 20] (by simp) ?_ (uniq_nodup' (by decide)) ?_ ?_
  · exact hfit_cons rfl (jb_ro rfl) (hfit_cons rfl (jb_ro rfl) (hfit_cons rfl (jb_ro (scs_rens ..)) (hfit_cons rfl (jb_ro (scs_rens ..)) (hfit_cons rfl (jb_ro (scs_rens ..)) (hfit_cons rfl (jb_ro (scs_rens ..)) (hfit_cons rfl (jb_ro (scs_rens ..)) (hfit_cons rfl (jb_ro (scs_rens ..)) (hfit_cons rfl (jb_ro (scs_rens ..)) hfit_nil))))))))
  · simp only [rens, ren, gmap]
    rfl
  rintro v k ⟨x0, hx0, hsol0, rfl, rfl⟩
  rw [puts_ro (by simp [wrB]) rfl (by simp)]
  simp only [List.map_cons, List.map_nil, Option.map_some, Option.map_none, renB, scs_rens, rens, ren, gmap, lw_plain, List.drop_succ_cons, List.drop_zero, List.cons_append, List.nil_append, List.append_nil, List.length_cons, List.length_nil, Nat.reduceAdd]
  refine run_driveS 80 ?_
  simp only [go_sem]
  refine run_call' rfl ?_
  simp only [go_sem, calV]
  refine vcall_at (known_ hG 1 (by decide) (fun i => sqf (U i)) (fun i => tld (U i) (A i) (B i) m) (fun i j => sqf_lt ..) (fun i j => tld_lt ..) (1 + 4 * m) (by omega) (by omega) (hs 1 (by decide)) (Q := fun v k => ∃ x : Nat → Nat, (∀ j, x j < 115792089237316195423570985008687907853269984665640564039457584007913129639936) ∧ Go.VsP.Sol (fun c j => Go.VsP.ph (aug (fun c j => sqf (U j) c) (wnt 1) c j)) 1 (fun j => Go.VsP.ph (x j)) ∧ v = .sl 9 0 (1 + 4 * m) (.exact (1 + 4 * m)) ∧ k = [none, none, none, none, none, none, none, none, none, some ⟨.rw, scs (1 + 4 * m) (kac x (fun i => tld (U i) (A i) (B i) m) 3)⟩]) fun x a b => ⟨x, a, b, rfl, rfl⟩) [12, 13, 14, 15, 16, 17, 18, 19, 20] (by simp) ?_ (uniq_nodup' (by decide)) ?_ ?_
  · exact hfit_cons rfl (jb_ro rfl) (hfit_cons rfl (jb_ro rfl) (hfit_cons rfl (jb_ro (scs_rens ..)) (hfit_cons rfl (jb_ro (scs_rens ..)) (hfit_cons rfl (jb_ro (scs_rens ..)) (hfit_cons rfl (jb_ro (scs_rens ..)) (hfit_cons rfl (jb_ro (scs_rens ..)) (hfit_cons rfl (jb_ro (scs_rens ..)) (hfit_cons rfl (jb_ro (scs_rens ..)) hfit_nil))))))))
  · simp only [rens, ren, gmap]
    rfl
  rintro v k ⟨x1, hx1, hsol1, rfl, rfl⟩
  rw [puts_ro (by simp [wrB]) rfl (by simp)]
  simp only [List.map_cons, List.map_nil, Option.map_some, Option.map_none, renB, scs_rens, rens, ren, gmap, lw_plain, List.drop_succ_cons, List.drop_zero, List.cons_append, List.nil_append, List.append_nil, List.length_cons, List.length_nil, Nat.reduceAdd]
  refine run_driveS 80 ?_
  simp only [go_sem]
  refine run_call' rfl ?_
  simp only [go_sem, calV]
  refine vcall_at (known_ hG 2 (by decide) (fun i => sqf (U i)) (fun i => tld (U i) (A i) (B i) m) (fun i j => sqf_lt ..) (fun i j => tld_lt ..) (1 + 4 * m) (by omega) (by omega) (hs 2 (by decide)) (Q := fun v k => ∃ x : Nat → Nat, (∀ j, x j < 115792089237316195423570985008687907853269984665640564039457584007913129639936) ∧ Go.VsP.Sol (fun c j => Go.VsP.ph (aug (fun c j => sqf (U j) c) (wnt 2) c j)) 1 (fun j => Go.VsP.ph (x j)) ∧ v = .sl 9 0 (1 + 4 * m) (.exact (1 + 4 * m)) ∧ k = [none, none, none, none, none, none, none, none, none, some ⟨.rw, scs (1 + 4 * m) (kac x (fun i => tld (U i) (A i) (B i) m) 3)⟩]) fun x a b => ⟨x, a, b, rfl, rfl⟩) [12, 13, 14, 15, 16, 17, 18, 19, 20] (by simp) ?_ (uniq_nodup' (by decide)) ?_ ?_
  · exact hfit_cons rfl (jb_ro rfl) (hfit_cons rfl (jb_ro rfl) (hfit_cons rfl (jb_ro (scs_rens ..)) (hfit_cons rfl (jb_ro (scs_rens ..)) (hfit_cons rfl (jb_ro (scs_rens ..)) (hfit_cons rfl (jb_ro (scs_rens ..)) (hfit_cons rfl (jb_ro (scs_rens ..)) (hfit_cons rfl (jb_ro (scs_rens ..)) (hfit_cons rfl (jb_ro (scs_rens ..)) hfit_nil))))))))
  · simp only [rens, ren, gmap]
    rfl
  rintro v k ⟨x2, hx2, hsol2, rfl, rfl⟩
  rw [puts_ro (by simp [wrB]) rfl (by simp)]
  simp only [List.map_cons, List.map_nil, Option.map_some, Option.map_none, renB, scs_rens, rens, ren, gmap, lw_plain, List.drop_succ_cons, List.drop_zero, List.cons_append, List.nil_append, List.append_nil, List.length_cons, List.length_nil, Nat.reduceAdd]
  refine run_driveS 80 ?_
  simp only [go_sem]
  refine run_driveS 80 ?_
  simp only [go_sem, v10_18, brs3 U, brc3 U]
  refine run_call' rfl ?_
  simp only [go_sem, calV]
  refine vcall_at (square_ hG (U 3) (hU 3) m (c6 3) (c7 3) (some ⟨.ro, scs m (A 3)⟩) (some ⟨.ro, scs m (B 3)⟩) (Q := fun v k => v = .sl 2 0 3 (.exact 3) ∧ k = [none, none, some ⟨.rw, scs 3 (sqf (U 3))⟩]) ⟨rfl, rfl⟩) [9, 10] (by simp) ?_ (uniq_nodup' (by decide)) ?_ ?_
  · exact hfit_cons rfl (jb_ro (scs_rens ..)) (hfit_cons rfl (jb_ro (scs_rens ..)) hfit_nil)
  · simp only [rens, ren, gmap, rens_append, lc_rens]
  rintro v k ⟨rfl, rfl⟩
  rw [puts_ro (by simp [wrB]) rfl (by simp)]
  simp only [List.map_cons, List.map_nil, Option.map_some, Option.map_none, renB, scs_rens, rens, ren, gmap, lw_plain, List.drop_succ_cons, List.drop_zero, List.cons_append, List.nil_append, List.append_nil, List.length_cons, List.length_nil, Nat.reduceAdd]
  have t2 : ((32 : Int) * (((1 + 4 * m) : Nat) : Int) ≤ 281474976710656) = True := eq_true (by omega)
  have t3 : ((((1 + 4 * m) : Nat) : Int) ≤ 9223372036854775807) = True := eq_true (by omega)
  have tz := scs_zero (1 + 4 * m)
  refine run_driveS 80 ?_
  simp only [go_sem, v10_19]
  refine run_driveS 80 ?_
  simp only [go_sem, v10_20, t2, t3, tz]
  refine run_driveS 80 ?_
  simp only [go_sem, v10_21, v10_29]
  have hq := hQ (x3 x0 x1 x2) (x3_lt hx0 hx1 hx2) (fun wh hw => by
    have : wh = 0 ∨ wh = 1 ∨ wh = 2 := by omega
    rcases this with rfl | rfl | rfl
    · exact hsol0
    · exact hsol1
    · exact hsol2)
  refine run_rename [0, 1, 2, 3, 4, 5, 6, 7, 8, 9, 10, 11, 20, 21, 22, 23, 24, 25] rfl (by simp) ?_ (uniq_nodup' (by decide)) ?_ (join_end hG p q (U 3) (hU 3) U g h A B m hm hm4 c6 c7 (kac x0 (fun i => tld (U i) (A i) (B i) m) 3) (kac x1 (fun i => tld (U i) (A i) (B i) m) 3) (kac x2 (fun i => tld (U i) (A i) (B i) m) 3) (tld (U 3) (A 3) (B 3) m) (kac_lt _ _ _) (kac_lt _ _ _) (kac_lt _ _ _) (tld_lt _ _ _ _) hq.1 hq.2)
  · exact hfit_cons rfl (jb_g (scs_rens ..)) (hfit_cons rfl (jb_g (scs_rens ..)) (hfit_cons rfl (jb_g (brs_rens _ _ _ _ _ (gm12b _))) (hfit_cons rfl (jb_g (scs_rens ..)) (hfit_cons rfl (jb_g (scs_rens ..)) (hfit_cons rfl (jb_g (scs_rens ..)) (hfit_cons rfl (jb_g (scs_rens ..)) (hfit_cons rfl (jb_g (scs_rens ..)) (hfit_cons rfl (jb_g (scs_rens ..)) (hfit_cons rfl (jb_g (scs_rens ..)) (hfit_cons rfl (jb_g (scs_rens ..)) (hfit_cons rfl (jb_g (by simp only [rens_append, lc_rens]; rfl)) (hfit_cons rfl (jb_g (scs_rens ..)) (hfit_cons rfl (jb_g (scs_rens ..)) (hfit_cons rfl (jb_g (scs_rens ..)) (hfit_cons rfl (jb_g (scs_rens ..)) (hfit_cons rfl (jb_g (scs_rens ..)) (hfit_cons rfl (jb_g (scs_rens ..)) hfit_nil)))))))))))))))))
  · rw [mxf_0]
    simp only [go_sem, fit, ren, gmap, true_or, or_true]
    rfl
end
end Go.Vs.Tryd
