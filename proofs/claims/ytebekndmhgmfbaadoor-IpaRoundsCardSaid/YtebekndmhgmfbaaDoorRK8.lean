/- Text 8 of 10 of this claim: a machine of plain values beside the model, what the functions of the program and of the reference answer over it, and last the row and its card. -/
import Derived.Test.YtebekndmhgmfbaaDoorRK7
import Derived.Test.YtebekndmhgmfbaaDoorRK6
import Derived.Test.YtebekndmhgmfbaaDoorRK4
set_option linter.unusedVariables false
set_option linter.unusedSimpArgs false
namespace Go.Vs.Tryd
open Go.Proofs
variable {G : Nat → List V}
set_option linter.unusedSimpArgs false
attribute [local go_sem] lenO_nils lenO_sl sliceAtV Int.sub_zero List.length_append List.all_append ge_iff_le gt_iff_lt Int.natCast_nonneg Int.toNat_natCast Nat.mul_one b_and_ll b_shr_ll b_mul_ll b_add_ll b_or_ll b_shl_ll pick_ll pick_lc pick_bb driveS stopV Option.isSome_some Option.isSome_none Kind.m Kind.w Kind.g look_ro look_rw look_grow drive stepV exo expo evs fillV isNil nilKind eqV eqL optA optM sliceAtV ev kn ldc stc splice appV srcV lenV setd wantV exitV rvs rv one List.length_cons List.length_nil List.cons_append List.nil_append List.append_nil List.replicate List.getD_cons_zero List.getD_cons_succ List.set_cons_zero List.set_cons_succ List.getElem?_cons_zero List.getElem?_cons_succ List.getElem?_nil List.take_succ_cons List.take_zero List.take_nil List.drop_succ_cons List.drop_zero List.drop_nil List.all_cons List.all_nil List.any_cons List.any_nil Bool.and_true Bool.true_and Bool.and_self Option.map_some Option.map_none Option.bind_some Option.some.injEq Nat.add_zero Nat.zero_add Int.toNat_zero Int.toNat_one Int.zero_add Int.add_zero if_true if_false ite_true ite_false and_true true_and and_self ne_eq not_false_eq_true not_true_eq_false decide_true decide_false Bool.false_eq_true Bool.not_true Bool.not_false beq_self_eq_true BEq.rfl Bool.not_eq_true Nat.le_refl Int.le_refl Nat.zero_le List.foldl List.map_cons List.map_nil Prod.mk.injEq Int.cast_ofNat_Int Int.zero_le_ofNat b_add_cc b_add_cl b_add_lc b_mul_cc b_mul_cl b_mul_lc b_sub_cc b_sub_cl b_sub_lc b_and_cc b_and_cl b_and_lc b_or_cc b_or_cl b_or_lc b_xor_cc b_xor_cl b_xor_lc b_andNot_cc b_andNot_cl b_andNot_lc b_shr_cc b_shr_cl b_shr_lc b_shl_cc b_shl_cl b_shl_lc b_lss b_leq b_gtr b_geq b_add_i b_sub_i b_mul_i beq_cc beq_cl beq_lc beq_ll b_quo_i b_rem_i neg_u64 wrap_i64 driveD stepD idsAt idOf maskH_nil restore_nil restore_mask List.filterMap_nil List.filterMap_cons VOp.looks VOp.makes exA cells_agg cells_int cells_bool cells_str cells_nilp cells_ptr cells_glob cells_nils cells_sl cells_nilf cells_fn cells_nili cells_ifc known_agg known_tup known_int known_bool known_str known_nilp known_ptr known_glob known_nils known_sl known_nilf known_fn known_nili known_ifc known_unk one_agg one_tup one_int one_bool one_str one_nilp one_ptr one_glob one_nils one_sl one_nilf one_fn one_nili one_ifc asK_int asN_int asB_bool asS_str asG_agg asT_tup
attribute [local go_sem_proc] Nat.reduceAdd Nat.reduceSub Nat.reduceLeDiff Nat.reduceMul Nat.reduceLT Nat.reduceEqDiff Int.reduceLT Int.reduceLE Int.reduceAdd Int.reduceSub Int.reduceMul Int.reduceToNat reduceIte reduceCtorEq Nat.reduceBEq
section
attribute [local go_sem ↓] lc_len lc_take lc_drop lc_known lc_one lc_rens lc_cells lw_known lw_agg lw_asG scs_known scs_one scs_len
attribute [local go_sem] lt_nat lt_natl lt_lnat lt_ll bool_tf bool_ft
attribute [local go_sem ↓] ecs_len ecs_take ecs_drop ecs_known ecs_one ecs_rens ecs_fit ecs_cells ew_known ew_agg ew_asG ecs_kind ecs_k ecs_l ers_known ers_one ers_len ers_rens ers_fit
attribute [local go_sem ↓] ecs_take_add ecs_drop_add lc_take_add lc_drop_add lenO_de lenO_dv de_known dv_known de_one dv_one de_ren dv_ren
set_option maxRecDepth 100000
set_option maxHeartbeats 1000000
def blv (n i : Nat) : List V := [.unk, .sl 0 0 n (.grow 26), .unk, .sl 0 (n * 26) n (.grow 26), .ptr 1 0, .unk, .ptr 2 0, .unk, .unk, de 3 i, .int .i64 i] ++ List.replicate 23 .unk
theorem ers_get2 (n : Nat) (f : Nat → Nat) {i : Nat} (h : i < n) : ((ers (2 * n) f).drop (n * 26 + i * 26)).take 26 = ecs (f (n + i)) := by
  rw [← Nat.add_mul]
  exact ers_get (2 * n) f (by omega)
theorem blend_loop (g r : Nat → Nat) (hg : ∀ j, g j < 115792089237316195423570985008687907853269984665640564039457584007913129639936) (x y n : Nat) (hx : x < 115792089237316195423570985008687907853269984665640564039457584007913129639936) (hy : y < 115792089237316195423570985008687907853269984665640564039457584007913129639936) (hn : n < 1000000) (hr : ∀ j, j < n → r j = (g j * x % ell + g (n + j) * y % ell) % ell) {Q : V → Heap → Prop} {K : List TI}
    (hK : Run Tryd.prog G 87 1 Q (K, ⟨blv n n, [some ⟨.ro, ers (2 * n) g⟩, some ⟨.rw, lc x⟩, some ⟨.rw, lc y⟩, ebg r n]⟩)) : ∀ k i, i + k = n → Run Tryd.prog G 87 1 Q (.l v87_7 :: .b 0 :: K, ⟨blv n i, [some ⟨.ro, ers (2 * n) g⟩, some ⟨.rw, lc x⟩, some ⟨.rw, lc y⟩, ebg r i]⟩)
  | 0, i, h => by
    obtain rfl : i = n := by omega
    have h0 : ((i : Int) < (i : Int)) = False := eq_false (by omega)
    unfold blv
    by_cases hi : i = 0
    · subst hi
      rw [show de 3 0 = .nils from rfl, show ebg r 0 = none from rfl]
      refine run_loop_eq v87_7.eq_1 ?_
      refine run_driveS 80 ?_
      simp only [go_sem, v87_3]
      refine run_exit rfl ?_
      refine run_rename [0, 1, 2, 3] rfl (by simp) ?_ ?_ ?_ hK
      · rw [show ebg r 0 = none from rfl]
        simp only [go_sem, hfit, lc_fit, scs_fit, fit, ren, gmap, lw_plain, true_or, or_true]
      · simp [uniq, ebg, wrB]
      · unfold blv
        rw [show de 3 0 = .nils from rfl]
        simp only [go_sem, hfit, lc_fit, scs_fit, fit, ren, gmap, lw_plain, true_or, or_true]
    · rw [de_pos (by omega), ebg_pos (by omega)]
      refine run_loop_eq v87_7.eq_1 ?_
      refine run_driveS 80 ?_
      simp only [go_sem, v87_3, h0]
      refine run_exit rfl ?_
      refine run_rename [0, 1, 2, 3] rfl (by simp) ?_ ?_ ?_ hK
      · rw [ebg_pos (by omega)]
        simp only [go_sem, hfit, lc_fit, scs_fit, fit, ren, gmap, lw_plain, true_or, or_true]
      · simp [uniq, ebg_pos (show 0 < i by omega), wrB]
      · unfold blv
        rw [de_pos (by omega)]
        simp only [go_sem, hfit, lc_fit, scs_fit, fit, ren, gmap, lw_plain, true_or, or_true]
  | k + 1, i, h => by
    have ih := blend_loop g r hg x y n hx hy hn hr hK k (i + 1) (by omega)
    have h0 : ((i : Int) < (n : Int)) = True := eq_true (by omega)
    have hg1 := ers_get (2 * n) g (i := i) (by omega)
    have hg2 := ers_get2 n g (i := i) (by omega)
    have hw : IntKind.i64.wrap ((i : Int) + 1) = ((i + 1 : Nat) : Int) := by rw [wrap_i64 (by omega) (by omega)]; omega
    have hri := hr i (by omega)
    unfold blv
    by_cases hi : i = 0
    · subst hi
      have h0' : ((0 : Int) < (n : Int)) = True := eq_true (by omega)
      rw [Nat.zero_mul, List.drop_zero] at hg1
      rw [Nat.zero_mul, Nat.add_zero, Nat.add_zero] at hg2
      rw [Nat.add_zero] at hri
      rw [show de 3 0 = .nils from rfl, show ebg r 0 = none from rfl]
      refine run_loop_eq v87_7.eq_1 ?_
      refine run_driveS 80 ?_
      simp only [go_sem, v87_3, v87_5, h0']
      refine run_drw (by kernel_rfl) ?_
      refine drun_drive 40 (p := (_, _)) ?_
      simp only [go_sem, v87_4, h0', hg1, hg2]
      refine drun_call' ?_
      simp only [go_sem, calV]
      refine e_times _ _ (hg 0) hx ?_
      refine drun_drive 40 (p := (_, _)) ?_
      simp only [go_sem]
      refine drun_call' ?_
      simp only [go_sem, calV]
      refine e_times _ _ (hg n) hy ?_
      refine drun_drive 40 (p := (_, _)) ?_
      simp only [go_sem]
      refine drun_call' ?_
      simp only [go_sem, calV]
      refine e_add _ _ (mod_lt' _) (mod_lt' _) ?_
      rw [← hri]
      refine drun_drive 40 (p := (_, _)) ?_
      simp only [go_sem]
      refine drun_end ?_
      refine run_driveS 80 ?_
      simp only [go_sem, v87_6]
      refine run_rename [0, 1, 2, 5] rfl (by simp) ?_ ?_ ?_ ih
      · rw [ebg_pos (by omega), show ers (0 + 1) r = ecs (r 0) from rfl]
        simp only [go_sem, hfit, lc_fit, scs_fit, fit, ren, gmap, lw_plain, true_or, or_true]
      · simp [uniq, ebg, wrB]
      · unfold blv
        rw [de_pos (by omega)]
        simp only [go_sem, hfit, lc_fit, scs_fit, fit, ren, gmap, lw_plain, true_or, or_true]
    · have hi : 0 < i := by omega
      rw [de_pos hi, ebg_pos hi]
      have a1 : ((i + 1) * 224 ≤ 140737488355328) = True := eq_true (by omega)
      have a2 : (i + 1 ≤ 9223372036854775807) = True := eq_true (by omega)
      have a3 := ers_snoc i r (v := r i) rfl
      refine run_loop_eq v87_7.eq_1 ?_
      refine run_driveS 80 ?_
      simp only [go_sem, v87_3, v87_5, h0]
      refine run_drw (by kernel_rfl) ?_
      refine drun_drive 40 (p := (_, _)) ?_
      simp only [go_sem, v87_4, h0, hg1, hg2]
      refine drun_call' ?_
      simp only [go_sem, calV]
      refine e_times _ _ (hg i) hx ?_
      refine drun_drive 40 (p := (_, _)) ?_
      simp only [go_sem]
      refine drun_call' ?_
      simp only [go_sem, calV]
      refine e_times _ _ (hg (n + i)) hy ?_
      refine drun_drive 40 (p := (_, _)) ?_
      simp only [go_sem]
      refine drun_call' ?_
      simp only [go_sem, calV]
      refine e_add _ _ (mod_lt' _) (mod_lt' _) ?_
      rw [← hri]
      refine drun_drive 40 (p := (_, _)) ?_
      simp only [go_sem, a1, a2, a3]
      refine drun_end ?_
      refine run_driveS 80 ?_
      simp only [go_sem, v87_6, hw]
      refine run_rename [0, 1, 2, 5] rfl (by simp) ?_ ?_ ?_ ih
      · rw [ebg_pos (by omega)]
        simp only [go_sem, hfit, lc_fit, scs_fit, fit, ren, gmap, lw_plain, true_or, or_true]
      · simp [uniq, ebg, wrB]
      · unfold blv
        rw [de_pos (by omega)]
        simp only [go_sem, hfit, lc_fit, scs_fit, fit, ren, gmap, lw_plain, true_or, or_true]
theorem blend (g r : Nat → Nat) (hg : ∀ j, g j < 115792089237316195423570985008687907853269984665640564039457584007913129639936) (x y n : Nat) (hx : x < 115792089237316195423570985008687907853269984665640564039457584007913129639936) (hy : y < 115792089237316195423570985008687907853269984665640564039457584007913129639936) (hn : n < 1000000) (hn0 : 0 < n) (hr : ∀ j, j < n → r j = (g j * x % ell + g (n + j) * y % ell) % ell) (Q : V → Heap → Prop)
    (hQ : Q (.sl 1 0 n (.grow 26)) [some ⟨.ro, ers (2 * n) g⟩, some ⟨.grow, ers n r⟩]) : VCall Tryd.prog G 87 [lw x, .sl 0 0 n (.grow 26), lw y, .sl 0 (n * 26) n (.grow 26)] [some ⟨.ro, ers (2 * n) g⟩] Q := by
  refine vcall_body Tryd.func87 nm87 code87 nt87 ?_
  refine run_driveS 80 ?_
  simp only [go_sem, v87, v87_0, v87_1, v87_2, v87_8]
  refine run_rename [0, 1, 2, 3] rfl (by simp) ?_ ?_ ?_ (blend_loop g r hg x y n hx hy hn hr (K := [.c (.seq (.reg v87_9) .ret)]) ?_ n 0 (by omega))
  · rw [show ebg r 0 = none from rfl]
    simp only [go_sem, hfit, lc_fit, scs_fit, fit, ren, gmap, lw_plain, true_or, or_true]
  · simp [uniq, ebg, wrB]
  · unfold blv
    rw [show de 3 0 = .nils from rfl]
    simp only [go_sem, hfit, lc_fit, scs_fit, fit, ren, gmap, lw_plain, true_or, or_true]
  · unfold blv
    rw [de_pos hn0, ebg_pos hn0]
    refine run_driveS 80 ?_
    simp only [go_sem, v87_9]
    refine run_ret_drop Tryd.func87 res87 [0, 3] (.sl 1 0 n (.grow 26)) _ rfl (by simp) ?_ ?_ ?_ hQ
    · simp only [go_sem, hfit, lc_fit, scs_fit, fit, ren, gmap, lw_plain, true_or, or_true]
    · simp [uniq, wrB]
    · simp only [go_sem, rr87, ren, gmap]
end
section
attribute [local go_sem ↓] lc_len lc_take lc_drop lc_known lc_one lc_rens lc_cells lw_known lw_agg lw_asG scs_known scs_one scs_len
attribute [local go_sem] lt_nat lt_natl lt_lnat lt_ll bool_tf bool_ft
attribute [local go_sem ↓] ecs_len ecs_take ecs_drop ecs_known ecs_one ecs_rens ecs_fit ecs_cells ew_known ew_agg ew_asG ecs_kind ecs_k ecs_l ers_known ers_one ers_len ers_rens ers_fit
attribute [local go_sem ↓] ecs_take_add ecs_drop_add lc_take_add lc_drop_add lenO_de lenO_dv de_known dv_known de_one dv_one de_ren dv_ren
set_option maxRecDepth 100000
set_option maxHeartbeats 1000000
theorem fold_ref (g h : Nat → Nat) (hg : ∀ j, g j < 115792089237316195423570985008687907853269984665640564039457584007913129639936) (hh : ∀ j, h j < 115792089237316195423570985008687907853269984665640564039457584007913129639936) (P Q' L R u n : Nat) (hP : P < ell) (hL : L < 115792089237316195423570985008687907853269984665640564039457584007913129639936) (hR : R < 115792089237316195423570985008687907853269984665640564039457584007913129639936) (hu : u < ell) (hn : n < 1000000) (hn0 : 0 < n) (g' h' : Nat → Nat)
    (hg' : ∀ j, j < n → g' j = (g j * linv u % ell + g (n + j) * u % ell) % ell) (hh' : ∀ j, j < n → h' j = (h j * u % ell + h (n + j) * linv u % ell) % ell) (Q : V → Heap → Prop)
    (hQ : Q (stE (((L * (u * u % ell) % ell + P) % ell + R * (linv u * linv u % ell) % ell) % ell) Q' (.sl 2 0 n (.grow 26)) (.sl 3 0 n (.grow 26))) [some ⟨.ro, ers (2 * n) g⟩, some ⟨.ro, ers (2 * n) h⟩, some ⟨.grow, ers n g'⟩, some ⟨.grow, ers n h'⟩]) :
    VCall Tryd.prog G 59 [stE P Q' (.sl 0 0 (2 * n) (.grow 26)) (.sl 1 0 (2 * n) (.grow 26)), ew L, ew R, lw u] [some ⟨.ro, ers (2 * n) g⟩, some ⟨.ro, ers (2 * n) h⟩] Q := by
  have hl := ell_lt
  have hv := linv_lt u
  have hq : binI .quo .i64 ((2 * n : Nat) : Int) .i64 2 = some (.int .i64 (n : Int)) := by
    rw [b_quo_i _ _ (by decide), show ((2 * n : Nat) : Int).tdiv 2 = ((2 * n / 2 : Nat) : Int) from (Int.ofNat_tdiv (2 * n) 2).symm, wrap_i64 (by omega) (by omega)]
    congr 2
    omega
  have hle : ((n : Int) ≤ ((2 * n : Nat) : Int)) = True := eq_true (by omega)
  have hsub : (((2 * n : Nat) : Int) - (n : Int)).toNat = n := by omega
  have hlt : ((n : Int) < ((2 * n : Nat) : Int)) = True := eq_true (by omega)
  refine vcall_body Tryd.func59 nm59 code59 nt59 ?_
  unfold stE
  refine run_driveS 80 ?_
  simp only [go_sem, v59, v59_0, v59_1]
  refine run_call' rfl ?_
  simp only [go_sem, calV]
  refine ref_invert u hu ?_
  refine run_driveS 80 ?_
  simp only [go_sem, v59_2, hq]
  refine run_drw (by kernel_rfl) ?_
  refine drun_drive 40 (p := (_, _)) ?_
  simp only [go_sem, v59_3, hle, hlt, true_or, or_true]
  refine drun_call' ?_
  simp only [go_sem, calV]
  refine ref_mul _ _ (by omega) (by omega) ?_
  refine drun_drive 40 (p := (_, _)) ?_
  simp only [go_sem]
  refine drun_call' ?_
  simp only [go_sem, calV]
  refine e_times _ _ hL (mod_lt _) ?_
  refine drun_drive 40 (p := (_, _)) ?_
  simp only [go_sem]
  refine drun_call' ?_
  simp only [go_sem, calV]
  refine e_add _ _ (mod_lt' _) hP ?_
  refine drun_drive 40 (p := (_, _)) ?_
  simp only [go_sem]
  refine drun_call' ?_
  simp only [go_sem, calV]
  refine ref_mul _ _ (by omega) (by omega) ?_
  refine drun_drive 40 (p := (_, _)) ?_
  simp only [go_sem]
  refine drun_call' ?_
  simp only [go_sem, calV]
  refine e_times _ _ hR (mod_lt _) ?_
  refine drun_drive 40 (p := (_, _)) ?_
  simp only [go_sem]
  refine drun_call' ?_
  simp only [go_sem, calV]
  refine e_add _ _ (mod_lt' _) (mod_lt' _) ?_
  refine drun_drive 40 (p := (_, _)) ?_
  simp only [go_sem]
  refine drun_call' ?_
  simp only [go_sem, calV, hsub, maskH, List.mapIdx_cons, List.mapIdx_nil, List.contains_cons, List.contains_nil, Bool.or_false, Bool.or_true, Bool.false_or, Bool.true_or]
  refine vcall_at (blend g g' hg (linv u) u n (by omega) (by omega) hn hn0 hg' (fun v h => v = .sl 1 0 n (.grow 26) ∧ h = [some ⟨.ro, ers (2 * n) g⟩, some ⟨.grow, ers n g'⟩]) ⟨rfl, rfl⟩) [0] (by simp) ?_ ?_ ?_ ?_
  · simp only [go_sem, hfit, lc_fit, scs_fit, fit, ren, gmap, lw_plain, true_or, or_true]
  · simp [uniq, wrB]
  · simp only [go_sem, ren, rens, gmap, lw_plain]
  rintro v h'' ⟨rfl, rfl⟩
  simp only [go_sem, ren, rens, gmap, puts, wrB, Bool.false_eq_true, if_false, if_true, renB, ers_rens, Option.map_some, Option.map_none, restore, List.mapIdx_cons, List.mapIdx_nil, List.contains_cons, List.contains_nil, Bool.or_false, Bool.or_true, Bool.false_or, Bool.true_or, Option.join_some]
  refine drun_call' ?_
  simp only [go_sem, calV, maskH, List.mapIdx_cons, List.mapIdx_nil, List.contains_cons, List.contains_nil, Bool.or_false, Bool.or_true, Bool.false_or, Bool.true_or]
  refine vcall_at (blend h h' hh u (linv u) n (by omega) (by omega) hn hn0 hh' (fun v k => v = .sl 1 0 n (.grow 26) ∧ k = [some ⟨.ro, ers (2 * n) h⟩, some ⟨.grow, ers n h'⟩]) ⟨rfl, rfl⟩) [1] (by simp) ?_ ?_ ?_ ?_
  · simp only [go_sem, hfit, lc_fit, scs_fit, fit, ren, gmap, lw_plain, true_or, or_true]
  · simp [uniq, wrB]
  · simp only [go_sem, ren, rens, gmap, lw_plain]
  rintro v h'' ⟨rfl, rfl⟩
  simp only [go_sem, ren, rens, gmap, puts, wrB, Bool.false_eq_true, if_false, if_true, renB, ers_rens, Option.map_some, Option.map_none, restore, List.mapIdx_cons, List.mapIdx_nil, List.contains_cons, List.contains_nil, Bool.or_false, Bool.or_true, Bool.false_or, Bool.true_or, Option.join_some]
  refine drun_drive 40 (p := (_, _)) ?_
  simp only [go_sem, List.append_assoc]
  refine drun_end ?_
  refine run_driveS 80 ?_
  simp only [go_sem]
  refine run_ret_drop Tryd.func59 res59 [0, 1, 8, 9] _ _ rfl (by simp) ?_ ?_ ?_ hQ
  · simp only [go_sem, hfit, lc_fit, scs_fit, fit, ren, gmap, lw_plain, true_or, or_true]
  · simp [uniq, wrB]
  · simp only [go_sem, rr59, stE_ren, ren, gmap]
    rfl
end
end Go.Vs.Tryd
namespace Go.Vs.Tryd
theorem linv_mod' (a : Nat) : linv (a % ell) = linv a := by rw [linv_eq, linv_eq, ← Nat.pow_mod]
end Go.Vs.Tryd
namespace Go.Vs.Tryd
open Go.Proofs
variable {G : Nat → List V}
set_option linter.unusedSimpArgs false
attribute [local go_sem] lenO_nils lenO_sl sliceAtV Int.sub_zero List.length_append List.all_append ge_iff_le gt_iff_lt Int.natCast_nonneg Int.toNat_natCast Nat.mul_one b_and_ll b_shr_ll b_mul_ll b_add_ll b_or_ll b_shl_ll pick_ll pick_lc pick_bb driveS stopV Option.isSome_some Option.isSome_none Kind.m Kind.w Kind.g look_ro look_rw look_grow drive stepV exo expo evs fillV isNil nilKind eqV eqL optA optM sliceAtV ev kn ldc stc splice appV srcV lenV setd wantV exitV rvs rv one List.length_cons List.length_nil List.cons_append List.nil_append List.append_nil List.replicate List.getD_cons_zero List.getD_cons_succ List.set_cons_zero List.set_cons_succ List.getElem?_cons_zero List.getElem?_cons_succ List.getElem?_nil List.take_succ_cons List.take_zero List.take_nil List.drop_succ_cons List.drop_zero List.drop_nil List.all_cons List.all_nil List.any_cons List.any_nil Bool.and_true Bool.true_and Bool.and_self Option.map_some Option.map_none Option.bind_some Option.some.injEq Nat.add_zero Nat.zero_add Int.toNat_zero Int.toNat_one Int.zero_add Int.add_zero if_true if_false ite_true ite_false and_true true_and and_self ne_eq not_false_eq_true not_true_eq_false decide_true decide_false Bool.false_eq_true Bool.not_true Bool.not_false beq_self_eq_true BEq.rfl Bool.not_eq_true Nat.le_refl Int.le_refl Nat.zero_le List.foldl List.map_cons List.map_nil Prod.mk.injEq Int.cast_ofNat_Int Int.zero_le_ofNat b_add_cc b_add_cl b_add_lc b_mul_cc b_mul_cl b_mul_lc b_sub_cc b_sub_cl b_sub_lc b_and_cc b_and_cl b_and_lc b_or_cc b_or_cl b_or_lc b_xor_cc b_xor_cl b_xor_lc b_andNot_cc b_andNot_cl b_andNot_lc b_shr_cc b_shr_cl b_shr_lc b_shl_cc b_shl_cl b_shl_lc b_lss b_leq b_gtr b_geq b_add_i b_sub_i b_mul_i beq_cc beq_cl beq_lc beq_ll b_quo_i b_rem_i neg_u64 wrap_i64 driveD stepD idsAt idOf maskH_nil restore_nil restore_mask List.filterMap_nil List.filterMap_cons VOp.looks VOp.makes exA cells_agg cells_int cells_bool cells_str cells_nilp cells_ptr cells_glob cells_nils cells_sl cells_nilf cells_fn cells_nili cells_ifc known_agg known_tup known_int known_bool known_str known_nilp known_ptr known_glob known_nils known_sl known_nilf known_fn known_nili known_ifc known_unk one_agg one_tup one_int one_bool one_str one_nilp one_ptr one_glob one_nils one_sl one_nilf one_fn one_nili one_ifc asK_int asN_int asB_bool asS_str asG_agg asT_tup
attribute [local go_sem_proc] Nat.reduceAdd Nat.reduceSub Nat.reduceLeDiff Nat.reduceMul Nat.reduceLT Nat.reduceEqDiff Int.reduceLT Int.reduceLE Int.reduceAdd Int.reduceSub Int.reduceMul Int.reduceToNat reduceIte reduceCtorEq Nat.reduceBEq
section
attribute [local go_sem ↓] lc_len lc_take lc_drop lc_known lc_one lc_rens lc_cells lw_known lw_agg lw_asG scs_known scs_one scs_len
attribute [local go_sem] lt_nat lt_natl lt_lnat lt_ll bool_tf bool_ft
attribute [local go_sem ↓] ecs_len ecs_take ecs_drop ecs_known ecs_one ecs_rens ecs_fit ecs_cells ew_known ew_agg ew_asG ecs_kind ecs_k ecs_l ers_known ers_one ers_len ers_rens ers_fit
attribute [local go_sem ↓] ecs_take_add ecs_drop_add lc_take_add lc_drop_add lenO_de lenO_dv de_known dv_known de_one dv_one de_ren dv_ren
set_option maxRecDepth 100000
set_option maxHeartbeats 1000000
theorem fit_append (g : Nat → Nat) : ∀ {a a' b b' : List V}, fit g a a' → fit g b b' → fit g (a ++ b) (a' ++ b')
  | [], [], _, _, _, h => h
  | _ :: _, _ :: _, _, _, h, k => ⟨h.1, fit_append g h.2 k⟩
  | [], _ :: _, _, _, h, _ => h.elim
  | _ :: _, [], _, _, h, _ => h.elim
theorem fit_unk (g : Nat → Nat) : ∀ (l : List V) {n : Nat}, l.length = n → fit g (List.replicate n .unk) l
  | [], n, h => by simp at h; subst h; exact trivial
  | v :: l, n, h => by
    obtain ⟨m, rfl⟩ : ∃ m, n = m + 1 := ⟨n - 1, by simp at h; omega⟩
    exact ⟨.inl rfl, fit_unk g l (by simpa using h)⟩
noncomputable def pl (Lf Rf us : Nat → Nat) (N : Nat) : Nat → Nat → Nat
  | 0, P => P
  | m + 1, P => pl Lf Rf us N m (((Lf (N - 1 - m) * (us (N - 1 - m) * us (N - 1 - m) % ell) % ell + P) % ell + Rf (N - 1 - m) * (linv (us (N - 1 - m)) * linv (us (N - 1 - m)) % ell) % ell) % ell)
theorem wrB_none : wrB none = false := rfl
theorem wrB_rob (f : Nat → Nat) (n : Nat) : wrB (rob f n) = false := by unfold rob; split <;> rfl
theorem wrB_eb (f : Nat → Nat) (n : Nat) : wrB (eb f n) = false := by unfold eb; split <;> rfl
end
section
attribute [local go_sem ↓] lc_len lc_take lc_drop lc_known lc_one lc_rens lc_cells lw_known lw_agg lw_asG scs_known scs_one scs_len
attribute [local go_sem ↓] lc_take_add lc_drop_add
attribute [local go_sem] bool_tf bool_ft
set_option maxRecDepth 100000
set_option maxHeartbeats 1000000
def t3 (n : Nat) (x : Nat) (y z : Nat → Nat) (j : Nat) : Nat := if j = 0 then x else if j < 1 + n then y (j - 1) else z (j - 1 - n)
end
section
attribute [local go_sem ↓] lc_len lc_take lc_drop lc_known lc_one lc_rens lc_cells lw_known lw_agg lw_asG scs_known scs_one scs_len
attribute [local go_sem] lt_nat lt_natl lt_lnat lt_ll bool_tf bool_ft
attribute [local go_sem ↓] ecs_len ecs_take ecs_drop ecs_known ecs_one ecs_rens ecs_fit ecs_cells ew_known ew_agg ew_asG ecs_kind ecs_k ecs_l ers_known ers_one ers_len ers_rens ers_fit
set_option maxRecDepth 100000
set_option maxHeartbeats 1000000
theorem line_ (k : Nat) {h : Heap} {R : V → Heap → Prop} (hQ : R (lw k) h) : VCall Tryd.prog G 22 [lw k] h R := by
  refine vcall_plain (Q := fun v => v = lw k) ?_ (fun g => by simp only [rens, lw_plain]) (fun v g hv => by subst hv; exact lw_plain _ g) (fun v hv => by subst hv; exact hQ)
  refine vcall_body Tryd.func22 nm22 code22 nt22 ?_
  refine run_driveS 80 ?_
  simp only [go_sem, v22, v22_0, v22_1]
  refine run_ret_drop Tryd.func22 res22 [] (lw k) [] rfl (by simp) trivial (by simp [uniq]) ?_ ⟨rfl, rfl⟩
  simp only [go_sem, rr22, lw_plain]
theorem doc_line (k : Nat) (hk : k < 115792089237316195423570985008687907853269984665640564039457584007913129639936) {h : Heap} {R : V → Heap → Prop} (hQ : R (ew (k % ell)) h) : VCall Tryd.prog G 39 [lw k] h R := by
  refine vcall_plain (Q := fun v => v = ew (k % ell)) ?_ (fun g => by simp only [rens, lw_plain]) (fun v g hv => by subst hv; exact ew_plain _ g) (fun v hv => by subst hv; exact hQ)
  refine vcall_body Tryd.func39 nm39 code39 nt39 ?_
  refine run_driveS 80 ?_
  simp only [go_sem, v39, v39_0, v39_1]
  refine run_call' rfl ?_
  simp only [go_sem, calV]
  refine ref_least k hk ?_
  refine run_driveS 80 ?_
  simp only [go_sem]
  refine run_call' rfl ?_
  simp only [go_sem, calV]
  refine line_of _ ?_
  refine run_driveS 80 ?_
  simp only [go_sem]
  refine run_ret_drop Tryd.func39 res39 [] (ew (k % ell)) [] rfl (by simp) trivial (by simp [uniq]) ?_ ⟨rfl, rfl⟩
  simp only [go_sem, rr39, ew_plain]
def liv (n i : Nat) (uv : V) : List V := [uv, .unk, .nils, .sl 1 0 (n + 1) (.exact (n + 1)), .int .i64 i] ++ List.replicate 30 .unk
def lih (b0 : Option Blk) (f : Nat → Nat) (n i : Nat) : Heap := [b0, some ⟨.rw, scs (n + 1) fun j => if j < i then f j else 0⟩]
theorem lines_loop (f : Nat → Nat) (N m n : Nat) (hN : n ≤ N) (hn : n ≤ 2100) {Q : V → Heap → Prop} {K : List TI}
    (hK : Run Tryd.prog G 38 1 Q (K, ⟨liv n n (.sl 0 0 n (.exact m)), lih (some ⟨.ro, scs N f⟩) f n n⟩)) : ∀ k i, i + k = n → Run Tryd.prog G 38 1 Q (.l v38_8 :: .b 0 :: K, ⟨liv n i (.sl 0 0 n (.exact m)), lih (some ⟨.ro, scs N f⟩) f n i⟩)
  | 0, i, h => by
    obtain rfl : i = n := by omega
    have h0 : ((i : Int) < (i : Int)) = False := eq_false (by omega)
    unfold liv lih
    refine run_loop_eq v38_8.eq_1 ?_
    refine run_driveS 80 ?_
    simp only [go_sem, v38_4, h0]
    refine run_exit rfl ?_
    refine run_rename [0, 1] rfl (by simp) ?_ ?_ ?_ hK
    · unfold lih
      simp only [go_sem, hfit, lc_fit, scs_fit, fit, ren, gmap, lw_plain, true_or, or_true]
    · simp [uniq, lih, wrB]
    · unfold liv
      simp only [go_sem, hfit, lc_fit, scs_fit, fit, ren, gmap, lw_plain, true_or, or_true]
  | k + 1, i, h => by
    have ih := lines_loop f N m n hN hn hK k (i + 1) (by omega)
    have h0 : ((i : Int) < (n : Int)) = True := eq_true (by omega)
    have h1 : ((i : Int) < ((n + 1 : Nat) : Int)) = True := eq_true (by omega)
    have hg := scs_get' N f (i := i) (by omega)
    have hin : (i * 4 + 4 ≤ (n + 1) * 4) = True := eq_true (by omega)
    have hset := scs_set (n + 1) (fun j => if j < i then f j else 0) (fun j => if j < i + 1 then f j else 0) (i := i) (v := f i) (by omega) (by rw [if_pos (by omega)]) (fun j _ hj => by by_cases h1 : j < i <;> simp [h1] <;> omega)
    have hw : IntKind.i64.wrap ((i : Int) + 1) = ((i + 1 : Nat) : Int) := by rw [wrap_i64 (by omega) (by omega)]; omega
    unfold liv lih
    refine run_loop_eq v38_8.eq_1 ?_
    refine run_driveS 80 ?_
    simp only [go_sem, v38_4, v38_6, v38_5, h0, hg]
    refine run_call' rfl ?_
    simp only [go_sem, calV]
    refine line_ _ ?_
    refine run_driveS 80 ?_
    simp only [go_sem, v38_7, h1, hin, hset, hw]
    refine run_rename [0, 1] rfl (by simp) ?_ ?_ ?_ ih
    · unfold lih
      simp only [go_sem, hfit, lc_fit, scs_fit, fit, ren, gmap, lw_plain, true_or, or_true]
    · simp [uniq, lih, wrB]
    · unfold liv
      simp only [go_sem, hfit, lc_fit, scs_fit, fit, ren, gmap, lw_plain, true_or, or_true]
theorem lines_ (f : Nat → Nat) (N n : Nat) (uv : V) (b0 : Option Blk) (hi : In f N uv b0) (hn : n = min N 2100) (Q : V → Heap → Prop) (hQ : Q (.sl 1 0 n (.exact (n + 1))) [b0, some ⟨.rw, scs n f ++ lc 77⟩]) : VCall Tryd.prog G 38 [uv] [b0] Q := by
  have hend : (scs (n + 1) fun j => if j < n + 1 then (if j < n then f j else 77) else 0) = scs n f ++ lc 77 := by
    show (scs n fun j => if j < n + 1 then (if j < n then f j else 77) else 0) ++ lc (if n < n + 1 then (if n < n then f n else 77) else 0) = _
    rw [if_pos (by omega), if_neg (by omega)]
    congr 1
    exact scs_congr fun j hj => by rw [if_pos (by omega), if_pos hj]
  have hft : ∀ g, fit g (scs n f ++ lc 77) (scs n f ++ lc 77) := fun g => fit_same (by rw [rens_append, scs_rens, lc_rens])
  have h77 : [V.int .u64 (nl 77), .int .u64 (nl 0), .int .u64 (nl 0), .int .u64 (nl 0)] = lc 77 := rfl
  have h77' : [V.int .u64 (nl 77), .int .u64 (nl 0), .int .u64 (nl 0), .int .u64 (nl 0)] = lc 77 := rfl
  refine vcall_body Tryd.func38 nm38 code38 nt38 ?_
  cases hi with
  | nil =>
    obtain rfl : n = 0 := by omega
    refine run_driveS 80 ?_
    simp only [go_sem, v38, v38_0, v38_1]
    refine run_call' rfl ?_
    simp only [go_sem, calV]
    refine cut_nil ?_
    refine run_driveS 80 ?_
    simp only [go_sem, v38_2, v38_3, v38_9]
    refine run_loop_eq v38_8.eq_1 ?_
    refine run_driveS 80 ?_
    simp only [go_sem, v38_4]
    refine run_exit rfl ?_
    refine run_driveS 80 ?_
    simp only [go_sem, v38_10, h77]
    refine run_call' rfl ?_
    simp only [go_sem, calV]
    refine line_ _ ?_
    refine run_driveS 80 ?_
    simp only [go_sem, v38_11]
    refine run_ret_drop Tryd.func38 res38 [0, 1] (.sl 1 0 0 (.exact (0 + 1))) _ rfl (by simp) ?_ ?_ ?_ hQ
    · simp only [go_sem, hfit, lc_fit, scs_fit, fit, ren, gmap, lw_plain, true_or, or_true, hft]
      exact hft _
    · simp [uniq, wrB]
    · simp only [go_sem, rr38, ren, gmap]
  | sl M m hm =>
    refine run_driveS 80 ?_
    simp only [go_sem, v38, v38_0, v38_1]
    refine run_call' rfl ?_
    simp only [go_sem, calV]
    refine cut_sl' 0 N m hm ?_
    rw [← hn]
    have hw : IntKind.i64.wrap ((n : Int) + 1) = ((n + 1 : Nat) : Int) := by rw [wrap_i64 (by omega) (by omega)]; omega
    have h2 : ((32 : Int) * ((n + 1 : Nat) : Int) ≤ 281474976710656) = True := eq_true (by omega)
    have h3 : (((n + 1 : Nat) : Int) ≤ 9223372036854775807) = True := eq_true (by omega)
    refine run_driveS 80 ?_
    simp only [go_sem, v38_2, v38_3, v38_9, hw, h2, h3, ↓scs_zero]
    refine run_rename [0, 1] rfl (by simp) ?_ ?_ ?_ (lines_loop f N m n (by omega) (by omega) (K := [.c (.seq (.reg v38_10) (.seq (.reg v38_11) .ret))]) ?_ n 0 (by omega))
    · unfold lih
      rw [show (scs (n + 1) fun j => if j < 0 then f j else 0) = scs (n + 1) fun _ => 0 from scs_congr fun j _ => if_neg (by omega)]
      simp only [go_sem, hfit, lc_fit, scs_fit, fit, ren, gmap, lw_plain, true_or, or_true]
    · simp [uniq, lih, wrB]
    · unfold liv
      simp only [go_sem, hfit, lc_fit, scs_fit, fit, ren, gmap, lw_plain, true_or, or_true]
    · unfold liv lih
      have h1 : ((n : Int) < ((n + 1 : Nat) : Int)) = True := eq_true (by omega)
      have h4 : ((n : Int) ≤ ((n + 1 : Nat) : Int)) = True := eq_true (by omega)
      have hin : (n * 4 + 4 ≤ (n + 1) * 4) = True := eq_true (by omega)
      have hset := scs_set (n + 1) (fun j => if j < n then f j else 0) (fun j => if j < n + 1 then (if j < n then f j else 77) else 0) (i := n) (v := 77) (by omega) (by simp) (fun j _ hj => by by_cases h1 : j < n <;> simp [h1] <;> omega)
      have h77 : [V.int .u64 (nl 77), .int .u64 (nl 0), .int .u64 (nl 0), .int .u64 (nl 0)] = lc 77 := rfl
      refine run_driveS 80 ?_
      simp only [go_sem, v38_10, h77]
      refine run_call' rfl ?_
      simp only [go_sem, calV]
      refine line_ _ ?_
      refine run_driveS 80 ?_
      simp only [go_sem, v38_11, h1, h4, hin, hset, hend]
      refine run_ret_drop Tryd.func38 res38 [0, 1] (.sl 1 0 n (.exact (n + 1))) _ rfl (by simp) ?_ ?_ ?_ hQ
      · simp only [go_sem, hfit, lc_fit, scs_fit, fit, ren, gmap, lw_plain, true_or, or_true, hft]
      · simp [uniq, wrB]
      · simp only [go_sem, rr38, ren, gmap]
end
section
attribute [local go_sem ↓] lc_len lc_take lc_drop lc_known lc_one lc_rens lc_cells lw_known lw_agg lw_asG scs_known scs_one scs_len
attribute [local go_sem] lt_nat lt_natl lt_lnat lt_ll bool_tf bool_ft
attribute [local go_sem ↓] ecs_len ecs_take ecs_drop ecs_known ecs_one ecs_rens ecs_fit ecs_cells ew_known ew_agg ew_asG ecs_kind ecs_k ecs_l ers_known ers_one ers_len ers_rens ers_fit
set_option maxRecDepth 100000
set_option maxHeartbeats 1000000
def dlv (n : Nat) (m : Nat) (i : Nat) : List V := [.sl 0 0 n (.exact m), .unk, .nils, de 1 i, .int .i64 i] ++ List.replicate 17 .unk
theorem docl_loop (f : Nat → Nat) (hf : ∀ j, f j < 115792089237316195423570985008687907853269984665640564039457584007913129639936) (N m n : Nat) (hN : n ≤ N) (hn : n ≤ 2100) {Q : V → Heap → Prop} {K : List TI}
    (hK : Run Tryd.prog G 40 1 Q (K, ⟨dlv n m n, [some ⟨.ro, scs N f⟩, ebg (fun j => f j % ell) n]⟩)) : ∀ k i, i + k = n → Run Tryd.prog G 40 1 Q (.l v40_8 :: .b 0 :: K, ⟨dlv n m i, [some ⟨.ro, scs N f⟩, ebg (fun j => f j % ell) i]⟩)
  | 0, i, h => by
    obtain rfl : i = n := by omega
    have h0 : ((i : Int) < (i : Int)) = False := eq_false (by omega)
    unfold dlv
    by_cases hi : i = 0
    · subst hi
      rw [show de 1 0 = .nils from rfl, show ebg (fun j => f j % ell) 0 = none from rfl]
      refine run_loop_eq v40_8.eq_1 ?_
      refine run_driveS 80 ?_
      simp only [go_sem, v40_4]
      refine run_exit rfl ?_
      refine run_rename [0, 1] rfl (by simp) ?_ ?_ ?_ hK
      · rw [show ebg (fun j => f j % ell) 0 = none from rfl]
        simp only [go_sem, hfit, lc_fit, scs_fit, fit, ren, gmap, lw_plain, true_or, or_true]
      · simp [uniq, ebg, wrB]
      · unfold dlv
        rw [show de 1 0 = .nils from rfl]
        simp only [go_sem, hfit, lc_fit, scs_fit, fit, ren, gmap, lw_plain, true_or, or_true]
    · have hi : 0 < i := by omega
      rw [de_pos hi, ebg_pos hi]
      refine run_loop_eq v40_8.eq_1 ?_
      refine run_driveS 80 ?_
      simp only [go_sem, v40_4, h0]
      refine run_exit rfl ?_
      refine run_rename [0, 1] rfl (by simp) ?_ ?_ ?_ hK
      · rw [ebg_pos hi]
        simp only [go_sem, hfit, lc_fit, scs_fit, fit, ren, gmap, lw_plain, true_or, or_true]
      · simp [uniq, wrB]
      · unfold dlv
        rw [de_pos hi]
        simp only [go_sem, hfit, lc_fit, scs_fit, fit, ren, gmap, lw_plain, true_or, or_true]
  | k + 1, i, h => by
    have ih := docl_loop f hf N m n hN hn hK k (i + 1) (by omega)
    have h0 : ((i : Int) < (n : Int)) = True := eq_true (by omega)
    have hg := scs_get' N f (i := i) (by omega)
    have hw : IntKind.i64.wrap ((i : Int) + 1) = ((i + 1 : Nat) : Int) := by rw [wrap_i64 (by omega) (by omega)]; omega
    unfold dlv
    by_cases hi : i = 0
    · subst hi
      have h0' : ((0 : Int) < (n : Int)) = True := eq_true (by omega)
      rw [Nat.zero_mul, List.drop_zero] at hg
      rw [show de 1 0 = .nils from rfl, show ebg (fun j => f j % ell) 0 = none from rfl]
      refine run_loop_eq v40_8.eq_1 ?_
      refine run_driveS 80 ?_
      simp only [go_sem, v40_4, v40_6, v40_5, h0', hg]
      refine run_call' rfl ?_
      simp only [go_sem, calV]
      refine doc_line _ (hf 0) ?_
      refine run_driveS 80 ?_
      simp only [go_sem, v40_7]
      refine run_rename [0, 3] rfl (by simp) ?_ ?_ ?_ ih
      · rw [ebg_pos (by omega)]
        rw [show ers (0 + 1) (fun j => f j % ell) = ecs (f 0 % ell) from rfl]
        simp only [go_sem, hfit, lc_fit, scs_fit, fit, ren, gmap, lw_plain, true_or, or_true]
      · simp [uniq, ebg, wrB]
      · unfold dlv
        rw [de_pos (by omega)]
        simp only [go_sem, hfit, lc_fit, scs_fit, fit, ren, gmap, lw_plain, true_or, or_true]
    · have hi : 0 < i := by omega
      rw [de_pos hi, ebg_pos hi]
      have a1 : ((i + 1) * 224 ≤ 140737488355328) = True := eq_true (by omega)
      have a2 : (i + 1 ≤ 9223372036854775807) = True := eq_true (by omega)
      have a3 := ers_snoc i (fun j => f j % ell) (v := f i % ell) rfl
      refine run_loop_eq v40_8.eq_1 ?_
      refine run_driveS 80 ?_
      simp only [go_sem, v40_4, v40_6, v40_5, h0, hg]
      refine run_call' rfl ?_
      simp only [go_sem, calV]
      refine doc_line _ (hf i) ?_
      refine run_driveS 80 ?_
      simp only [go_sem, v40_7, a1, a2, a3, hw]
      refine run_rename [0, 3] rfl (by simp) ?_ ?_ ?_ ih
      · rw [ebg_pos (by omega)]
        simp only [go_sem, hfit, lc_fit, scs_fit, fit, ren, gmap, lw_plain, true_or, or_true]
      · simp [uniq, ebg, wrB]
      · unfold dlv
        rw [de_pos (by omega)]
        simp only [go_sem, hfit, lc_fit, scs_fit, fit, ren, gmap, lw_plain, true_or, or_true]
theorem doc_lines (f : Nat → Nat) (hf : ∀ j, f j < 115792089237316195423570985008687907853269984665640564039457584007913129639936) (N n : Nat) (uv : V) (b0 : Option Blk) (hi : In f N uv b0) (hn : n = min N 2100) (Q : V → Heap → Prop) (hQ : Q (de 1 n) [b0, ebg (fun j => f j % ell) n]) : VCall Tryd.prog G 40 [uv] [b0] Q := by
  refine vcall_body Tryd.func40 nm40 code40 nt40 ?_
  cases hi with
  | nil =>
    obtain rfl : n = 0 := by omega
    refine run_driveS 80 ?_
    simp only [go_sem, v40, v40_0, v40_1]
    refine run_call' rfl ?_
    simp only [go_sem, calV]
    refine cut_nil ?_
    refine run_driveS 80 ?_
    simp only [go_sem, v40_2, v40_3, v40_9]
    refine run_loop_eq v40_8.eq_1 ?_
    refine run_driveS 80 ?_
    simp only [go_sem, v40_4]
    refine run_exit rfl ?_
    refine run_driveS 80 ?_
    simp only [go_sem, v40_10]
    refine run_ret_drop Tryd.func40 res40 [0, 1] .nils _ rfl (by simp) ?_ ?_ ?_ hQ
    · rw [show ebg (fun j => f j % ell) 0 = none from rfl]
      simp only [go_sem, hfit, lc_fit, scs_fit, fit, ren, gmap, lw_plain, true_or, or_true]
    · simp [uniq, ebg, wrB]
    · simp only [go_sem, rr40, ren, gmap]
  | sl M m hm =>
    refine run_driveS 80 ?_
    simp only [go_sem, v40, v40_0, v40_1]
    refine run_call' rfl ?_
    simp only [go_sem, calV]
    refine cut_sl' 0 N m hm ?_
    rw [← hn]
    refine run_driveS 80 ?_
    simp only [go_sem, v40_2, v40_3, v40_9]
    refine run_rename [0, 1] rfl (by simp) ?_ ?_ ?_ (docl_loop f hf N m n (by omega) (by omega) (K := [.c (.seq (.reg v40_10) .ret)]) ?_ n 0 (by omega))
    · rw [show ebg (fun j => f j % ell) 0 = none from rfl]
      simp only [go_sem, hfit, lc_fit, scs_fit, fit, ren, gmap, lw_plain, true_or, or_true]
    · simp [uniq, ebg, wrB]
    · unfold dlv
      rw [show de 1 0 = .nils from rfl]
      simp only [go_sem, hfit, lc_fit, scs_fit, fit, ren, gmap, lw_plain, true_or, or_true]
    · unfold dlv
      by_cases h0 : n = 0
      · rw [h0] at hQ ⊢
        rw [show ebg (fun j => f j % ell) 0 = none from rfl, show de 1 0 = .nils from rfl] at hQ ⊢
        refine run_driveS 80 ?_
        simp only [go_sem, v40_10]
        refine run_ret_drop Tryd.func40 res40 [0, 1] .nils _ rfl (by simp) ?_ ?_ ?_ hQ
        · simp only [go_sem, hfit, lc_fit, scs_fit, fit, ren, gmap, lw_plain, true_or, or_true]
        · simp [uniq, wrB]
        · simp only [go_sem, rr40, ren, gmap]
      · rw [ebg_pos (by omega), de_pos (by omega)] at hQ ⊢
        refine run_driveS 80 ?_
        simp only [go_sem, v40_10]
        refine run_ret_drop Tryd.func40 res40 [0, 1] (.sl 1 0 n (.grow 26)) _ rfl (by simp) ?_ ?_ ?_ hQ
        · simp only [go_sem, hfit, lc_fit, scs_fit, fit, ren, gmap, lw_plain, true_or, or_true]
        · simp [uniq, wrB]
        · simp only [go_sem, rr40, ren, gmap]
end
section
attribute [local go_sem ↓] lc_len lc_take lc_drop lc_known lc_one lc_rens lc_cells lw_known lw_agg lw_asG scs_known scs_one scs_len
attribute [local go_sem] lt_nat lt_natl lt_lnat lt_ll bool_tf bool_ft
attribute [local go_sem ↓] ecs_len ecs_take ecs_drop ecs_known ecs_one ecs_rens ecs_fit ecs_cells ew_known ew_agg ew_asG ecs_kind ecs_k ecs_l ers_known ers_one ers_len ers_rens ers_fit
set_option maxRecDepth 100000
set_option maxHeartbeats 1000000
def ivl (i n m : Nat) (z : Bool) : V := if z = true then .nils else .sl i 0 n (.exact m)
def ivb (f : Nat → Nat) (n : Nat) (z : Bool) : Option Blk := if z = true then none else some ⟨.ro, scs n f⟩
def Ok (n m : Nat) (z : Bool) : Prop := n ≤ m ∧ (z = true → n = 0)
theorem In_iv {f : Nat → Nat} {n m : Nat} {z : Bool} (h : Ok n m z) : In f n (ivl 0 n m z) (ivb f n z) := by
  cases z
  · exact In.sl n m h.1
  · obtain rfl := h.2 rfl
    exact In.nil
theorem ivl_ren (i n m : Nat) (z : Bool) (g : Nat → Nat) : ren g (ivl i n m z) = ivl (g i) n m z := by cases z <;> rfl
theorem ivl_known (i n m : Nat) (z : Bool) : (ivl i n m z).known = true := by cases z <;> rfl
theorem ivl_one (i n m : Nat) (z : Bool) : (ivl i n m z).one = true := by cases z <;> rfl
theorem wrB_ivb (f : Nat → Nat) (n : Nat) (z : Bool) : wrB (ivb f n z) = false := by cases z <;> rfl
theorem ebg_map (f g' : Nat → Nat) (n : Nat) : (ebg f n).map (renB g') = ebg f n := by
  unfold ebg
  split
  · rfl
  · simp only [Option.map_some, renB, ers_rens]
attribute [local go_sem ↓] ivl_known ivl_one lc_take_add lc_drop_add ecs_take_add ecs_drop_add de_known de_one
theorem puts_ro {g : Nat → Nat} : ∀ {h' h'' : Heap} {μ : List Nat} {h : Heap}, h'.all (fun b => !wrB b) = true → h'.length = μ.length → h'.length ≤ h''.length → puts g h' h'' μ h = h ++ (h''.drop h'.length).map (Option.map (renB g))
  | [], h'', μ, h, _, _, _ => by simp [puts]
  | b :: h', [], μ, h, _, _, h3 => by simp at h3
  | b :: h', c :: h'', [], h, _, h2, _ => by simp at h2
  | b :: h', c :: h'', i :: μ, h, h1, h2, h3 => by
    simp only [List.all_cons, Bool.and_eq_true, Bool.not_eq_true'] at h1
    simp only [puts, h1.1, Bool.false_eq_true, if_false, List.length_cons, List.drop_succ_cons]
    exact puts_ro h1.2 (by simpa using h2) (by simpa using h3)
theorem hfit_one {g : Nat → Nat} {p : Nat} {h : Heap} {f : Nat → Nat} {n : Nat} {z : Bool} (hp : h[p]? = some (ivb f n z)) : hfit g h [p] [ivb f n z] := by
  cases z
  · simp only [hfit, hp]
    refine ⟨?_, trivial⟩
    show (Kind.ro = Kind.ro ∨ _) ∧ fit g (scs n f) (scs n f)
    exact ⟨.inl rfl, fit_same (scs_rens ..)⟩
  · exact ⟨trivial, trivial⟩
theorem lines_at (f : Nat → Nat) (n m : Nat) (z : Bool) (hok : Ok n m z) (p : Nat) {h : Heap} (hp : h[p]? = some (ivb f n z)) {R : V → Heap → Prop} (hR : R (.sl h.length 0 (min n 2100) (.exact (min n 2100 + 1))) (h ++ [some ⟨.rw, scs (min n 2100) f ++ lc 77⟩])) : VCall Tryd.prog G 38 [ivl p n m z] h R := by
  refine vcall_at (lines_ f n (min n 2100) (ivl 0 n m z) (ivb f n z) (In_iv hok) rfl (fun v k => v = .sl 1 0 (min n 2100) (.exact (min n 2100 + 1)) ∧ k = [ivb f n z, some ⟨.rw, scs (min n 2100) f ++ lc 77⟩]) ⟨rfl, rfl⟩) [p] ?_ (hfit_one hp) ?_ ?_ ?_
  · intro i hi
    obtain rfl : i = p := by simpa using hi
    exact (List.getElem?_eq_some_iff.1 hp).1
  · simp [uniq]
  · simp only [rens, ivl_ren, gmap]
  · rintro v k ⟨rfl, rfl⟩
    rw [puts_ro (by simp [wrB_ivb]) rfl (by simp)]
    simpa [ren, gmap, renB, rens_append, scs_rens, lc_rens] using hR
theorem doc_lines_at (f : Nat → Nat) (hf : ∀ j, f j < 115792089237316195423570985008687907853269984665640564039457584007913129639936) (n m : Nat) (z : Bool) (hok : Ok n m z) (p : Nat) {h : Heap} (hp : h[p]? = some (ivb f n z)) {R : V → Heap → Prop} (hR : R (de h.length (min n 2100)) (h ++ [ebg (fun j => f j % ell) (min n 2100)])) : VCall Tryd.prog G 40 [ivl p n m z] h R := by
  refine vcall_at (doc_lines f hf n (min n 2100) (ivl 0 n m z) (ivb f n z) (In_iv hok) rfl (fun v k => v = de 1 (min n 2100) ∧ k = [ivb f n z, ebg (fun j => f j % ell) (min n 2100)]) ⟨rfl, rfl⟩) [p] ?_ (hfit_one hp) ?_ ?_ ?_
  · intro i hi
    obtain rfl : i = p := by simpa using hi
    exact (List.getElem?_eq_some_iff.1 hp).1
  · simp [uniq]
  · simp only [rens, ivl_ren, gmap]
  · rintro v k ⟨rfl, rfl⟩
    rw [puts_ro (by simp [wrB_ivb]) rfl (by simp)]
    have e : ren (gmap [p] h.length) (de 1 (min n 2100)) = de h.length (min n 2100) := by
      unfold de; split <;> simp [ren, gmap]
    rw [e]
    simpa [ebg_map] using hR
theorem de_cells (b n : Nat) : cellsOf (de b n) = [de b n] := by unfold de; split <;> rfl
def bfit (g : Nat → Nat) : Option Blk → Option Blk → Prop
  | none, _ => True
  | some b1, some b => (b1.kind = b.kind ∨ b1.kind = .ro ∧ b.kind.m = true) ∧ fit g b1.cells b.cells
  | some _, none => False
theorem hfit_cons {g : Nat → Nat} {h : Heap} {i : Nat} {μ : List Nat} {b : Option Blk} {h' : Heap} {c : Option Blk} (hc : h[i]? = some c) (hb : bfit g b c) (hr : hfit g h μ h') : hfit g h (i :: μ) (b :: h') := by
  cases b with
  | none => exact ⟨trivial, hr⟩
  | some b1 =>
    cases c with
    | none => exact hb.elim
    | some c => simp only [hfit, hc]; exact ⟨hb, hr⟩
theorem hfit_cons_none {g : Nat → Nat} {h : Heap} {i : Nat} {μ : List Nat} {h' : Heap} (hr : hfit g h μ h') : hfit g h (i :: μ) (none :: h') := ⟨trivial, hr⟩
theorem hfit_nil {g : Nat → Nat} {h : Heap} : hfit g h [] [] := trivial
theorem bfit_same {g : Nat → Nat} {k : Kind} {c : List V} (h : rens g c = c) (hk : k.m = true := by rfl) : bfit g (some ⟨.ro, c⟩) (some ⟨k, c⟩) := ⟨.inr ⟨rfl, hk⟩, fit_same h⟩
theorem bfit_eb {g f : Nat → Nat} {n : Nat} : bfit g (eb f n) (ebg f n) := by
  unfold eb ebg
  split
  · trivial
  · exact bfit_same (ers_rens ..)
theorem bfit_eb' {g f : Nat → Nat} {n : Nat} : bfit g (eb f n) (eb f n) := by
  unfold eb
  split
  · trivial
  · exact bfit_same (ers_rens ..)
theorem bfit_ivb {g f : Nat → Nat} {n : Nat} {z : Bool} : bfit g (ivb f n z) (ivb f n z) := by
  cases z
  · exact bfit_same (scs_rens ..)
  · trivial
theorem bfit_sm {g f : Nat → Nat} {n m : Nat} {k : Kind} (hk : k.m = true := by rfl) : bfit g (some ⟨.ro, scs n f ++ lc m⟩) (some ⟨k, scs n f ++ lc m⟩) := bfit_same (by rw [rens_append, scs_rens, lc_rens]) hk
def cas (Q P : Nat) (g h a b l r : V) (ea eb : Nat) (s given lab n : V) : List V := lc Q ++ (lc P ++ (g :: h :: a :: b :: l :: r :: (lc ea ++ (lc eb ++ [s, given, lab, n]))))
theorem statement (g h : Nat → Nat) (hg : ∀ j, g j < 115792089237316195423570985008687907853269984665640564039457584007913129639936) (hh : ∀ j, h j < 115792089237316195423570985008687907853269984665640564039457584007913129639936) (Q' P ea eb' nG mG nH mH nA mA nB mB nL mL nR mR nU mU : Nat) (zG zH zA zB zL zR zU : Bool) (hG : Ok nG mG zG) (hH : Ok nH mH zH) (hP : P < 115792089237316195423570985008687907853269984665640564039457584007913129639936) (hQ' : Q' < 115792089237316195423570985008687907853269984665640564039457584007913129639936) (sc lab : V) (hsc : ∀ f, ren f sc = sc) (hlab : ∀ f, ren f lab = lab) (hsk : sc.known = true) (hlk : lab.known = true) (N : Int) (Q : V → Heap → Prop)
    (hQ : Q (.tup [stL P Q' (.sl 7 0 (min nG 2100) (.exact (min nG 2100 + 1))) (.sl 8 0 (min nH 2100) (.exact (min nH 2100 + 1))), stE (P % ell) (Q' % ell) (de 9 (min nG 2100)) (de 10 (min nH 2100))])
      [ivb g nG zG, ivb h nH zH, none, none, none, none, none, some ⟨.ro, scs (min nG 2100) g ++ lc 77⟩, some ⟨.ro, scs (min nH 2100) h ++ lc 77⟩, eb (fun j => g j % ell) (min nG 2100), eb (fun j => h j % ell) (min nH 2100)]) :
    VCall Tryd.prog G 7 [.agg (cas Q' P (ivl 0 nG mG zG) (ivl 1 nH mH zH) (ivl 2 nA mA zA) (ivl 3 nB mB zB) (ivl 4 nL mL zL) (ivl 5 nR mR zR) ea eb' sc (ivl 6 nU mU zU) lab (.int .i64 N))] [ivb g nG zG, ivb h nH zH, none, none, none, none, none] Q := by
  refine vcall_body Tryd.func7 nm7 code7 nt7 ?_
  unfold cas
  have b1 : ∀ r, List.take 8 (lc P ++ lc Q' ++ r) = lc P ++ lc Q' := fun _ => rfl
  have b2 : ∀ a b, List.drop 9 (lc P ++ lc Q' ++ [a, b]) = [b] := fun _ _ => rfl
  have b3 : ∀ a b, List.take 9 (lc P ++ lc Q' ++ [a] ++ b) = lc P ++ lc Q' ++ [a] := fun _ _ => rfl
  have b4 : ∀ a b, List.drop 10 (lc P ++ lc Q' ++ [a] ++ [b]) = [] := fun _ _ => rfl
  have hl : (ecs (P % ell) ++ ecs (Q' % ell)).length = 52 := by rw [List.length_append, ecs_len, ecs_len]
  have b5 : ∀ r, List.take 52 (ecs (P % ell) ++ ecs (Q' % ell) ++ r) = ecs (P % ell) ++ ecs (Q' % ell) := fun r => List.take_left' hl
  have b6 : ∀ a b, List.drop 53 (ecs (P % ell) ++ ecs (Q' % ell) ++ [a, b]) = [b] := fun a b => by
    rw [List.drop_append, hl]
    rw [List.drop_eq_nil_of_le (by omega)]
    rfl
  have b7 : ∀ a b, List.take 53 (ecs (P % ell) ++ ecs (Q' % ell) ++ [a] ++ b) = ecs (P % ell) ++ ecs (Q' % ell) ++ [a] := fun a b => List.take_left' (by rw [List.length_append, hl]; rfl)
  have b8 : ∀ a b, List.drop 54 (ecs (P % ell) ++ ecs (Q' % ell) ++ [a] ++ [b]) = [] := fun a b => List.drop_eq_nil_of_le (by rw [List.length_append, List.length_append, hl]; simp)
  refine run_driveS 80 ?_
  simp only [go_sem, v7, v7_0]
  refine run_drw (by kernel_rfl) ?_
  refine drun_drive 40 (p := (_, _)) ?_
  simp only [go_sem, v7_1, hsk, hlk]
  refine drun_call' ?_
  simp only [go_sem, calV]
  refine line_ _ ?_
  refine drun_drive 40 (p := (_, _)) ?_
  simp only [go_sem]
  refine drun_call' ?_
  simp only [go_sem, calV]
  refine line_ _ ?_
  refine drun_drive 40 (p := (_, _)) ?_
  simp only [go_sem]
  refine drun_call' ?_
  simp only [go_sem, calV, maskH, List.mapIdx_cons, List.mapIdx_nil, List.contains_cons, List.contains_nil, Bool.or_false, Bool.or_true, Bool.false_or, Bool.true_or]
  refine lines_at g nG mG zG hG 0 rfl ?_
  refine drun_drive 40 (p := (_, _)) ?_
  simp only [go_sem, restore, Option.join_some, maskH, List.mapIdx_cons, List.mapIdx_nil, List.contains_cons, List.contains_nil, Bool.or_false, Bool.or_true, Bool.false_or, Bool.true_or]
  refine drun_call' ?_
  simp only [go_sem, calV, maskH, List.mapIdx_cons, List.mapIdx_nil, List.contains_cons, List.contains_nil, Bool.or_false, Bool.or_true, Bool.false_or, Bool.true_or]
  refine lines_at h nH mH zH hH 1 rfl ?_
  refine drun_drive 40 (p := (_, _)) ?_
  simp only [go_sem, b1, b2, b3, b4, restore, Option.join_some, maskH, List.mapIdx_cons, List.mapIdx_nil, List.contains_cons, List.contains_nil, Bool.or_false, Bool.or_true, Bool.false_or, Bool.true_or]
  refine drun_call' ?_
  simp only [go_sem, calV, maskH, List.mapIdx_cons, List.mapIdx_nil, List.contains_cons, List.contains_nil, Bool.or_false, Bool.or_true, Bool.false_or, Bool.true_or]
  refine doc_line _ hP ?_
  refine drun_drive 40 (p := (_, _)) ?_
  simp only [go_sem, restore, Option.join_some, maskH, List.mapIdx_cons, List.mapIdx_nil, List.contains_cons, List.contains_nil, Bool.or_false, Bool.or_true, Bool.false_or, Bool.true_or, Nat.reduceBEq]
  refine drun_call' ?_
  simp only [go_sem, calV, maskH, List.mapIdx_cons, List.mapIdx_nil, List.contains_cons, List.contains_nil, Bool.or_false, Bool.or_true, Bool.false_or, Bool.true_or]
  refine doc_line _ hQ' ?_
  refine drun_drive 40 (p := (_, _)) ?_
  simp only [go_sem, restore, Option.join_some, maskH, List.mapIdx_cons, List.mapIdx_nil, List.contains_cons, List.contains_nil, Bool.or_false, Bool.or_true, Bool.false_or, Bool.true_or, Nat.reduceBEq]
  refine drun_call' ?_
  simp only [go_sem, calV, maskH, List.mapIdx_cons, List.mapIdx_nil, List.contains_cons, List.contains_nil, Bool.or_false, Bool.or_true, Bool.false_or, Bool.true_or]
  refine doc_lines_at g hg nG mG zG hG 0 rfl ?_
  refine drun_drive 40 (p := (_, _)) ?_
  simp only [go_sem, restore, Option.join_some, maskH, List.mapIdx_cons, List.mapIdx_nil, List.contains_cons, List.contains_nil, Bool.or_false, Bool.or_true, Bool.false_or, Bool.true_or, Nat.reduceBEq]
  refine drun_call' ?_
  simp only [go_sem, calV, maskH, List.mapIdx_cons, List.mapIdx_nil, List.contains_cons, List.contains_nil, Bool.or_false, Bool.or_true, Bool.false_or, Bool.true_or]
  refine doc_lines_at h hh nH mH zH hH 1 rfl ?_
  refine drun_drive 40 (p := (_, _)) ?_
  simp only [go_sem, restore, Option.join_some, maskH, List.mapIdx_cons, List.mapIdx_nil, List.contains_cons, List.contains_nil, Bool.or_false, Bool.or_true, Bool.false_or, Bool.true_or, Nat.reduceBEq, de_cells, b5, b6, b7, b8]
  refine drun_end ?_
  refine run_ret_drop Tryd.func7 res7 [0, 1, 2, 3, 4, 5, 6, 10, 11, 12, 13] _ _ rfl (by simp) ?_ ?_ ?_ hQ
  · exact hfit_cons rfl bfit_ivb (hfit_cons rfl bfit_ivb (hfit_cons_none (hfit_cons_none (hfit_cons_none (hfit_cons_none (hfit_cons_none (hfit_cons rfl bfit_sm (hfit_cons rfl bfit_sm (hfit_cons rfl bfit_eb (hfit_cons rfl bfit_eb hfit_nil))))))))))
  · simp [uniq, wrB_ivb, wrB_eb, wrB]
  · simp only [go_sem, rr7, stL_ren, stE_ren, ren, rens, gmap, de_ren, stL, stE, rens_append, lc_rens, ecs_rens, List.append_assoc]
end
end Go.Vs.Tryd
namespace Go.Vs.Tryd
open Go.Proofs
variable {G : Nat → List V}
set_option linter.unusedSimpArgs false
attribute [local go_sem] lenO_nils lenO_sl sliceAtV Int.sub_zero List.length_append List.all_append ge_iff_le gt_iff_lt Int.natCast_nonneg Int.toNat_natCast Nat.mul_one b_and_ll b_shr_ll b_mul_ll b_add_ll b_or_ll b_shl_ll pick_ll pick_lc pick_bb driveS stopV Option.isSome_some Option.isSome_none Kind.m Kind.w Kind.g look_ro look_rw look_grow drive stepV exo expo evs fillV isNil nilKind eqV eqL optA optM sliceAtV ev kn ldc stc splice appV srcV lenV setd wantV exitV rvs rv one List.length_cons List.length_nil List.cons_append List.nil_append List.append_nil List.replicate List.getD_cons_zero List.getD_cons_succ List.set_cons_zero List.set_cons_succ List.getElem?_cons_zero List.getElem?_cons_succ List.getElem?_nil List.take_succ_cons List.take_zero List.take_nil List.drop_succ_cons List.drop_zero List.drop_nil List.all_cons List.all_nil List.any_cons List.any_nil Bool.and_true Bool.true_and Bool.and_self Option.map_some Option.map_none Option.bind_some Option.some.injEq Nat.add_zero Nat.zero_add Int.toNat_zero Int.toNat_one Int.zero_add Int.add_zero if_true if_false ite_true ite_false and_true true_and and_self ne_eq not_false_eq_true not_true_eq_false decide_true decide_false Bool.false_eq_true Bool.not_true Bool.not_false beq_self_eq_true BEq.rfl Bool.not_eq_true Nat.le_refl Int.le_refl Nat.zero_le List.foldl List.map_cons List.map_nil Prod.mk.injEq Int.cast_ofNat_Int Int.zero_le_ofNat b_add_cc b_add_cl b_add_lc b_mul_cc b_mul_cl b_mul_lc b_sub_cc b_sub_cl b_sub_lc b_and_cc b_and_cl b_and_lc b_or_cc b_or_cl b_or_lc b_xor_cc b_xor_cl b_xor_lc b_andNot_cc b_andNot_cl b_andNot_lc b_shr_cc b_shr_cl b_shr_lc b_shl_cc b_shl_cl b_shl_lc b_lss b_leq b_gtr b_geq b_add_i b_sub_i b_mul_i beq_cc beq_cl beq_lc beq_ll b_quo_i b_rem_i neg_u64 wrap_i64 driveD stepD idsAt idOf maskH_nil restore_nil restore_mask List.filterMap_nil List.filterMap_cons VOp.looks VOp.makes exA cells_agg cells_int cells_bool cells_str cells_nilp cells_ptr cells_glob cells_nils cells_sl cells_nilf cells_fn cells_nili cells_ifc known_agg known_tup known_int known_bool known_str known_nilp known_ptr known_glob known_nils known_sl known_nilf known_fn known_nili known_ifc known_unk one_agg one_tup one_int one_bool one_str one_nilp one_ptr one_glob one_nils one_sl one_nilf one_fn one_nili one_ifc asK_int asN_int asB_bool asS_str asG_agg asT_tup true_or or_true false_or or_false
attribute [local go_sem_proc] Nat.reduceAdd Nat.reduceSub Nat.reduceLeDiff Nat.reduceMul Nat.reduceLT Nat.reduceEqDiff Int.reduceLT Int.reduceLE Int.reduceAdd Int.reduceSub Int.reduceMul Int.reduceToNat reduceIte reduceCtorEq Nat.reduceBEq
section
attribute [local go_sem ↓] lc_len lc_take lc_drop lc_known lc_one lc_rens lc_cells lw_known lw_agg lw_asG scs_known scs_one scs_len lc_take_add lc_drop_add
attribute [local go_sem] lt_nat lt_natl lt_lnat lt_ll bool_tf bool_ft
set_option maxRecDepth 100000
set_option maxHeartbeats 1000000
theorem fold_at (hG : G 0 = tbl) (x y m : Nat) (hx : x < 115792089237316195423570985008687907853269984665640564039457584007913129639936) (hy : y < 115792089237316195423570985008687907853269984665640564039457584007913129639936) (hm : 0 < m) (hm2 : m < 1000000) (c : Cap) (hc : c = .grow 4 ∨ ∃ k, c = .exact k ∧ 2 * m ≤ k) (f : Nat → Nat) (hf : ∀ j, f j < 115792089237316195423570985008687907853269984665640564039457584007913129639936) (p : Nat) {h : Heap} {k : Kind} (hk : k.m = true) (hp : h[p]? = some (some ⟨k, scs (2 * m) f⟩)) {R : V → Heap → Prop}
    (hR : R (.sl h.length 0 m (.exact m)) (h ++ [some ⟨.rw, scs m (fe x y m f)⟩])) : VCall Tryd.prog G 88 [lw x, .sl p 0 (2 * m) c, lw y] h R := by
  refine vcall_at (fold_elements hG x y m hx hy hm hm2 c hc f hf (fun v k => v = .sl 1 0 m (.exact m) ∧ k = [some ⟨.ro, scs (2 * m) f⟩, some ⟨.rw, scs m (fe x y m f)⟩]) ⟨rfl, rfl⟩) [p] ?_ (hfit_cons hp (bfit_same (scs_rens _ _ _) hk) hfit_nil) ?_ ?_ ?_
  · intro i hi
    obtain rfl : i = p := by simpa using hi
    exact (List.getElem?_eq_some_iff.1 hp).1
  · simp [uniq, wrB]
  · simp only [rens, ren, lw_plain, gmap]
  · rintro v k ⟨rfl, rfl⟩
    rw [puts_ro (by simp [wrB]) rfl (by simp)]
    simpa [ren, gmap, renB, scs_rens] using hR
theorem st_t8 (P Q : Nat) (r : List V) : List.take 8 (lc P ++ lc Q ++ r) = lc P ++ lc Q := rfl
theorem st_d9 (P Q : Nat) (a b : V) : List.drop 9 (lc P ++ lc Q ++ [a, b]) = [b] := rfl
theorem st_t9 (P Q : Nat) (a : V) (b : List V) : List.take 9 (lc P ++ lc Q ++ [a] ++ b) = lc P ++ lc Q ++ [a] := rfl
theorem st_d10 (P Q : Nat) (a b : V) : List.drop 10 (lc P ++ lc Q ++ [a] ++ [b]) = [] := rfl
theorem st_t10 (P Q : Nat) (a b : V) : List.take 10 (lc P ++ lc Q ++ [a] ++ [b]) = lc P ++ (lc Q ++ [a, b]) := rfl
noncomputable def pf1 (P L R U : Nat) : Nat := ((L * (U * U % ell) % ell + P) % ell + R * (linv U * linv U % ell) % ell) % ell
theorem pf1_lt (P L R U : Nat) : pf1 P L R U < ell := mod_lt' _
theorem folded_ (hG : G 0 = tbl) (P Q' L R U m : Nat) (hP : P < 115792089237316195423570985008687907853269984665640564039457584007913129639936) (hQ' : Q' < 115792089237316195423570985008687907853269984665640564039457584007913129639936) (hL : L < 115792089237316195423570985008687907853269984665640564039457584007913129639936) (hR : R < 115792089237316195423570985008687907853269984665640564039457584007913129639936) (hU : U < 115792089237316195423570985008687907853269984665640564039457584007913129639936) (hm : 0 < m) (hm2 : m < 1000000) (c d : Cap) (hc : c = .grow 4 ∨ ∃ k, c = .exact k ∧ 2 * m ≤ k) (hd : d = .grow 4 ∨ ∃ k, d = .exact k ∧ 2 * m ≤ k) (g h : Nat → Nat) (hg : ∀ j, g j < 115792089237316195423570985008687907853269984665640564039457584007913129639936) (hh : ∀ j, h j < 115792089237316195423570985008687907853269984665640564039457584007913129639936) (Q : V → Heap → Prop)
    (hQ : Q (stL (pf1 P L R U) Q' (.sl 2 0 m (.exact m)) (.sl 3 0 m (.exact m))) [some ⟨.ro, scs (2 * m) g⟩, some ⟨.ro, scs (2 * m) h⟩, some ⟨.rw, scs m (fe (linv U) U m g)⟩, some ⟨.rw, scs m (fe U (linv U) m h)⟩]) :
    VCall Tryd.prog G 61 [stL P Q' (.sl 0 0 (2 * m) c) (.sl 1 0 (2 * m) d), lw L, lw R, lw U] [some ⟨.ro, scs (2 * m) g⟩, some ⟨.ro, scs (2 * m) h⟩] Q := by
  have hl := ell_lt
  have hv : linv U < 115792089237316195423570985008687907853269984665640564039457584007913129639936 := Nat.lt_trans (linv_lt _) ell_lt
  have MSK := @maskH_nil
  refine vcall_body Tryd.func61 nm61 code61 nt61 ?_
  unfold stL
  refine run_driveS 80 ?_
  simp only [go_sem, v61, v61_0, v61_1]
  refine run_call' rfl ?_
  simp only [go_sem, calV]
  refine invert' hG U hU ?_
  refine run_driveS 80 ?_
  simp only [go_sem]
  refine run_drw (by kernel_rfl) ?_
  refine drun_drive 40 (p := (_, _)) ?_
  simp only [go_sem, v61_2]
  refine drun_call' ?_
  simp only [go_sem, calV, restore, Option.join_some, maskH, List.mapIdx_cons, List.mapIdx_nil, List.contains_cons, List.contains_nil, Bool.or_false, Bool.or_true, Bool.false_or, Bool.true_or, Nat.reduceBEq]
  refine mul' hG _ _ hU hU ?_
  refine drun_drive 40 (p := (_, _)) ?_
  simp only [go_sem, restore, Option.join_some, maskH, List.mapIdx_cons, List.mapIdx_nil, List.contains_cons, List.contains_nil, Bool.or_false, Bool.or_true, Bool.false_or, Bool.true_or, Nat.reduceBEq]
  refine drun_call' ?_
  simp only [go_sem, calV, m_times, restore, Option.join_some, maskH, List.mapIdx_cons, List.mapIdx_nil, List.contains_cons, List.contains_nil, Bool.or_false, Bool.or_true, Bool.false_or, Bool.true_or, Nat.reduceBEq]
  refine line_times hG _ _ hL (mod_lt _) ?_
  refine drun_drive 40 (p := (_, _)) ?_
  simp only [go_sem, restore, Option.join_some, maskH, List.mapIdx_cons, List.mapIdx_nil, List.contains_cons, List.contains_nil, Bool.or_false, Bool.or_true, Bool.false_or, Bool.true_or, Nat.reduceBEq]
  refine drun_call' ?_
  simp only [go_sem, calV, m_add, restore, Option.join_some, maskH, List.mapIdx_cons, List.mapIdx_nil, List.contains_cons, List.contains_nil, Bool.or_false, Bool.or_true, Bool.false_or, Bool.true_or, Nat.reduceBEq]
  refine line_add hG _ _ (mod_lt _) hP ?_
  refine drun_drive 40 (p := (_, _)) ?_
  simp only [go_sem, restore, Option.join_some, maskH, List.mapIdx_cons, List.mapIdx_nil, List.contains_cons, List.contains_nil, Bool.or_false, Bool.or_true, Bool.false_or, Bool.true_or, Nat.reduceBEq]
  refine drun_call' ?_
  simp only [go_sem, calV, restore, Option.join_some, maskH, List.mapIdx_cons, List.mapIdx_nil, List.contains_cons, List.contains_nil, Bool.or_false, Bool.or_true, Bool.false_or, Bool.true_or, Nat.reduceBEq]
  refine mul' hG _ _ hv hv ?_
  refine drun_drive 40 (p := (_, _)) ?_
  simp only [go_sem, restore, Option.join_some, maskH, List.mapIdx_cons, List.mapIdx_nil, List.contains_cons, List.contains_nil, Bool.or_false, Bool.or_true, Bool.false_or, Bool.true_or, Nat.reduceBEq]
  refine drun_call' ?_
  simp only [go_sem, calV, m_times, restore, Option.join_some, maskH, List.mapIdx_cons, List.mapIdx_nil, List.contains_cons, List.contains_nil, Bool.or_false, Bool.or_true, Bool.false_or, Bool.true_or, Nat.reduceBEq]
  refine line_times hG _ _ hR (mod_lt _) ?_
  refine drun_drive 40 (p := (_, _)) ?_
  simp only [go_sem, restore, Option.join_some, maskH, List.mapIdx_cons, List.mapIdx_nil, List.contains_cons, List.contains_nil, Bool.or_false, Bool.or_true, Bool.false_or, Bool.true_or, Nat.reduceBEq]
  refine drun_call' ?_
  simp only [go_sem, calV, m_add, restore, Option.join_some, maskH, List.mapIdx_cons, List.mapIdx_nil, List.contains_cons, List.contains_nil, Bool.or_false, Bool.or_true, Bool.false_or, Bool.true_or, Nat.reduceBEq]
  refine line_add hG _ _ (mod_lt _) (mod_lt _) ?_
  rw [show ((L * (U * U % ell) % ell + P) % ell + R * (linv U * linv U % ell) % ell) % ell = pf1 P L R U from rfl]
  refine drun_drive 40 (p := (_, _)) ?_
  simp only [go_sem, restore, Option.join_some, maskH, List.mapIdx_cons, List.mapIdx_nil, List.contains_cons, List.contains_nil, Bool.or_false, Bool.or_true, Bool.false_or, Bool.true_or, Nat.reduceBEq]
  refine drun_call' ?_
  simp only [go_sem, calV, restore, Option.join_some, maskH, List.mapIdx_cons, List.mapIdx_nil, List.contains_cons, List.contains_nil, Bool.or_false, Bool.or_true, Bool.false_or, Bool.true_or, Nat.reduceBEq]
  refine fold_at hG _ _ m hv hU hm hm2 c hc g hg 0 rfl rfl ?_
  refine drun_drive 40 (p := (_, _)) ?_
  simp only [go_sem, restore, Option.join_some, maskH, List.mapIdx_cons, List.mapIdx_nil, List.contains_cons, List.contains_nil, Bool.or_false, Bool.or_true, Bool.false_or, Bool.true_or, Nat.reduceBEq]
  refine drun_call' ?_
  simp only [go_sem, calV, restore, Option.join_some, maskH, List.mapIdx_cons, List.mapIdx_nil, List.contains_cons, List.contains_nil, Bool.or_false, Bool.or_true, Bool.false_or, Bool.true_or, Nat.reduceBEq]
  refine fold_at hG _ _ m hU hv hm hm2 d hd h hh 1 rfl rfl ?_
  refine drun_drive 40 (p := (_, _)) ?_
  simp only [go_sem, st_t8, st_d9, st_t9, st_d10, restore, Option.join_some, maskH, List.mapIdx_cons, List.mapIdx_nil, List.contains_cons, List.contains_nil, Bool.or_false, Bool.or_true, Bool.false_or, Bool.true_or, Nat.reduceBEq]
  refine drun_end ?_
  refine run_driveS 80 ?_
  simp only [go_sem]
  refine run_ret_drop Tryd.func61 res61 [0, 1, 8, 9] (stL (pf1 P L R U) Q' (.sl 2 0 m (.exact m)) (.sl 3 0 m (.exact m))) _ rfl (by simp) ?_ ?_ ?_ hQ
  · simp only [go_sem, hfit, lc_fit, scs_fit, fit, ren, gmap, lw_plain, true_or, or_true]
  · simp [uniq, wrB]
  · simp only [go_sem, rr61, ren, rens, gmap, stL_ren, stL, rens_append, st_t10]
end
section
attribute [local go_sem ↓] lc_len lc_take lc_drop lc_known lc_one lc_rens lc_cells lw_known lw_agg lw_asG scs_known scs_one scs_len lc_take_add lc_drop_add lenO_dv dv_known dv_one dv_ren
attribute [local go_sem] lt_nat lt_natl lt_lnat lt_ll bool_tf bool_ft
set_option maxRecDepth 100000
set_option maxHeartbeats 1000000
theorem fits_dv (hG : G 0 = tbl) (P Q' a b N : Nat) (hN : N ≤ 10) (c1 c2 : Cap) (us : Nat → Nat) (hus : ∀ j, us j < 115792089237316195423570985008687907853269984665640564039457584007913129639936) (hz : ∀ j, j < N → us j % ell ≠ 0) (Q : V → Heap → Prop) (hQ : Q (.int .i64 0) [rob us N, none, none, none, none]) :
    VCall Tryd.prog G 41 [stL P Q' (.sl 1 0 (2 ^ N) c1) (.sl 2 0 (2 ^ N) c2), arL (dv 3 N) (dv 4 N) a b, dv 0 N] [rob us N, none, none, none, none] Q := by
  have hp : 2 ^ N ≤ 2 ^ 10 := Nat.pow_le_pow_right (by decide) hN
  refine vcall_body Tryd.func41 nm41 code41 nt41 ?_
  unfold stL arL
  refine run_driveS 80 ?_
  simp only [go_sem, v41, v41_0, v41_1]
  refine run_call' rfl ?_
  simp only [go_sem, calV]
  refine rounds_ (2 ^ N) (by omega) (fun k hk e => ?_) (fun h => absurd rfl (h N hN))
  obtain rfl : N = k := pow_inj e
  refine run_driveS 80 ?_
  simp only [go_sem, v41_2, eq_int, decide_true]
  refine run_cond_f (by rfl) ?_
  refine run_driveS 80 ?_
  simp only [go_sem, v41_4, v41_12]
  refine run_rename [0, 1, 2, 3, 4] (st' := ⟨[.unk, .unk, dv 0 N] ++ List.replicate 46 .unk ++ [dv 0 N, .int .i64 N, .int .i64 (0 : Nat)] ++ List.replicate 6 .unk, [rob us N, none, none, none, none]⟩) rfl (by simp) ?_ ?_ ?_ (run_for (fun i => ⟨[.unk, .unk, dv 0 N] ++ List.replicate 46 .unk ++ [dv 0 N, .int .i64 N, .int .i64 i] ++ List.replicate 6 .unk, [rob us N, none, none, none, none]⟩) N (fun i hi ih => ?_) ?_)
  · exact hfit_cons rfl (by rcases rob_cases us N with e | e <;> rw [e] <;> first | trivial | exact bfit_same (scs_rens _ _ _)) (hfit_cons rfl trivial (hfit_cons rfl trivial (hfit_cons rfl trivial (hfit_cons rfl trivial hfit_nil))))
  · simp [uniq, wrB]
  · simp only [go_sem, hfit, lc_fit, scs_fit, fit, ren, gmap, lw_plain, true_or, or_true]
  · have h0 : ((i : Int) < (N : Int)) = True := eq_true (by omega)
    have hw : IntKind.i64.wrap ((i : Int) + 1) = ((i + 1 : Nat) : Int) := by rw [wrap_i64 (by omega) (by omega)]; omega
    have hg := scs_get' N us (i := i) (by omega)
    rw [dv_pos (by omega), rob_pos (by omega)] at ih ⊢
    refine run_loop_eq v41_11.eq_1 ?_
    refine run_driveS 80 ?_
    simp only [go_sem, v41_5, v41_9, v41_6, v41_7, h0, hg]
    refine run_call' rfl ?_
    simp only [go_sem, calV]
    refine is_zero' hG _ (hus i) ?_
    refine run_driveS 80 ?_
    simp only [go_sem]
    refine run_cond_f (by simp only [go_sem, decide_eq_false (hz i hi)]) ?_
    refine run_driveS 80 ?_
    simp only [go_sem, v41_10, hw]
    refine run_rename [0, 1, 2, 3, 4] rfl (by simp) ?_ ?_ ?_ (ih)
    · simp only [go_sem, hfit, lc_fit, scs_fit, fit, ren, gmap, lw_plain, true_or, or_true]
    · simp [uniq, wrB]
    · simp only [go_sem, hfit, lc_fit, scs_fit, fit, ren, gmap, lw_plain, true_or, or_true]
  · have h0 : ((N : Int) < (N : Int)) = False := eq_false (by omega)
    refine run_loop_eq v41_11.eq_1 ?_
    refine run_driveS 80 ?_
    simp only [go_sem, v41_5, h0]
    refine run_exit rfl ?_
    refine run_driveS 80 ?_
    simp only [go_sem, v41_13]
    refine run_ret_drop Tryd.func41 res41 [0, 1, 2, 3, 4] (.int .i64 0) _ rfl (by simp) ?_ ?_ ?_ hQ
    · exact hfit_cons rfl (by rcases rob_cases us N with e | e <;> rw [e] <;> first | trivial | exact bfit_same (scs_rens _ _ _)) (hfit_cons rfl trivial (hfit_cons rfl trivial (hfit_cons rfl trivial (hfit_cons rfl trivial hfit_nil))))
    · simp [uniq, wrB]
    · simp only [go_sem, rr41, ren]
end
section
attribute [local go_sem ↓] lc_len lc_take lc_drop lc_known lc_one lc_rens lc_cells lw_known lw_agg lw_asG scs_known scs_one scs_len lc_take_add lc_drop_add lenO_dv dv_known dv_one dv_ren
attribute [local go_sem] lt_nat lt_natl lt_lnat lt_ll bool_tf bool_ft
set_option maxRecDepth 100000
set_option maxHeartbeats 2000000
noncomputable def Gs (us g : Nat → Nat) (N : Nat) : Nat → Nat → Nat
  | 0 => g
  | t + 1 => fe (linv (us t)) (us t) (2 ^ (N - (t + 1))) (Gs us g N t)
noncomputable def Hs (us h : Nat → Nat) (N : Nat) : Nat → Nat → Nat
  | 0 => h
  | t + 1 => fe (us t) (linv (us t)) (2 ^ (N - (t + 1))) (Hs us h N t)
noncomputable def Ps (us L R : Nat → Nat) (P : Nat) : Nat → Nat
  | 0 => P
  | t + 1 => pf1 (Ps us L R P t) (L t) (R t) (us t)
theorem Gs_lt {us g : Nat → Nat} {N : Nat} (h : ∀ j, g j < 115792089237316195423570985008687907853269984665640564039457584007913129639936) : ∀ t j, Gs us g N t j < 115792089237316195423570985008687907853269984665640564039457584007913129639936
  | 0, j => h j
  | _ + 1, _ => Nat.lt_trans (fe_lt ..) ell_lt
theorem Hs_lt {us g : Nat → Nat} {N : Nat} (h : ∀ j, g j < 115792089237316195423570985008687907853269984665640564039457584007913129639936) : ∀ t j, Hs us g N t j < 115792089237316195423570985008687907853269984665640564039457584007913129639936
  | 0, j => h j
  | _ + 1, _ => Nat.lt_trans (fe_lt ..) ell_lt
theorem Ps_lt {us L R : Nat → Nat} {P : Nat} (h : P < 115792089237316195423570985008687907853269984665640564039457584007913129639936) : ∀ t, Ps us L R P t < 115792089237316195423570985008687907853269984665640564039457584007913129639936
  | 0 => h
  | _ + 1 => Nat.lt_trans (pf1_lt ..) ell_lt
def CapOk (c : Cap) (n : Nat) : Prop := c = .grow 4 ∨ ∃ k, c = .exact k ∧ n ≤ k
theorem bfit_rob {g f : Nat → Nat} {n : Nat} : bfit g (rob f n) (rob f n) := by
  rcases rob_cases f n with e | e <;> rw [e]
  · trivial
  · exact bfit_same (scs_rens ..)
theorem scs_tk (n : Nat) (f : Nat → Nat) : (scs n f).take (n * 4) = scs n f := List.take_of_length_le (by rw [scs_len]; exact Nat.le_refl _)
theorem st_ap (P Q : Nat) (a b : V) : lc P ++ lc Q ++ [a] ++ [b] ++ [] = lc P ++ (lc Q ++ [a, b]) := rfl
theorem yld_known (i : Nat) : (V.yld i).known = true := rfl
attribute [local go_sem] yld_known
theorem bfit_st {f : Nat → Nat} {P Q i j n : Nat} {c d : Cap} (hi : f i = i) (hj : f j = j) : bfit f (some ⟨.rw, lc P ++ (lc Q ++ [.sl i 0 n c, .sl j 0 n d])⟩) (some ⟨.rw, lc P ++ (lc Q ++ [.sl i 0 n c, .sl j 0 n d])⟩) := ⟨.inl rfl, fit_same (by simp only [rens_append, lc_rens, rens, ren, hi, hj])⟩
theorem uniq_nodup {μ : List Nat} {h' : Heap} (hn : μ.Nodup) : uniq μ h' := by
  unfold uniq
  refine List.pairwise_iff_getElem.2 fun i j hi hj hij _ => ?_
  simp only [List.getElem_zip]
  exact List.pairwise_iff_getElem.1 hn i j _ _ hij
theorem bfit_or {f : Nat → Nat} {b c : Option Blk} {p : Prop} (h : b = c ∨ p) (hp : ¬ p) (hb : bfit f c c) : bfit f c b := by
  rcases h with h | h
  · rw [h]; exact hb
  · exact absurd h hp
theorem bfit_cast {f : Nat → Nat} {b b' : Option Blk} (e : b = b') (h : bfit f b b) : bfit f b b' := by rw [← e]; exact h
theorem bfit_st2 {f : Nat → Nat} {P Q i j i' j' n : Nat} {c d : Cap} (hi : f i = i') (hj : f j = j') : bfit f (some ⟨.rw, lc P ++ (lc Q ++ [.sl i 0 n c, .sl j 0 n d])⟩) (some ⟨.rw, lc P ++ (lc Q ++ [.sl i' 0 n c, .sl j' 0 n d])⟩) := by
  refine ⟨.inl rfl, ?_⟩
  have h := fit_rens f (lc P ++ (lc Q ++ [.sl i 0 n c, .sl j 0 n d]))
  simpa only [rens_append, lc_rens, rens, ren, hi, hj] using h
theorem puts_keep' {g : Nat → Nat} : ∀ {h' h'' : Heap} {μ : List Nat} {h : Heap}, (∀ x ∈ h', wrB x = false) → h''.length = h'.length → μ.length = h'.length → puts g h' h'' μ h = h
  | [], [], μ, h, _, _, _ => by simp [puts]
  | b :: h', b1 :: h'', i :: μ, h, hw, hl, hm => by
    simp only [puts, hw b (by simp), Bool.false_eq_true, if_false]
    exact puts_keep' (fun x hx => hw x (by simp [hx])) (by simpa using hl) (by simpa using hm)
theorem puts_keep {g : Nat → Nat} {h' h'' : Heap} {μ : List Nat} {h : Heap} (hw : ∀ x ∈ h', wrB x = false) (hl : h''.length = h'.length) (hm : μ.length = h'.length := by rfl) : puts g h' h'' μ h = h := puts_keep' hw hl hm
section
variable (us g h Lf Rf : Nat → Nat) (N P Q' a b : Nat) (r : Loop) (tm : List V) (A : Nat → Nat → Nat → Option Blk) (B C Z W : Nat → Option Blk)
def bS : Option Blk := some ⟨.ro, lc P ++ (lc Q' ++ [.sl 3 0 (2 ^ N) (.grow 4), .sl 4 0 (2 ^ N) (.grow 4)])⟩
def bX : Option Blk := some ⟨.ro, dv 5 N :: dv 6 N :: (lc a ++ lc b)⟩
def bU : Option Blk := some ⟨.ro, [dv 7 N]⟩
noncomputable def hd0 (t : Nat) (c d : Cap) : Heap := [bS N P Q', bX N a b, bU N, some ⟨.ro, scs (2 ^ (N - t)) (Gs us g N t)⟩, some ⟨.ro, scs (2 ^ (N - t)) (Hs us h N t)⟩, rob Lf N, rob Rf N, rob us N, some ⟨.loop r, tm⟩, A t 15 16, B t, C t,
  some ⟨.rw, lc (Ps us Lf Rf P t) ++ (lc Q' ++ [.sl 3 0 (2 ^ (N - t)) c, .sl 4 0 (2 ^ (N - t)) d])⟩, none, none, Z t, W t]
noncomputable def hd1 (t : Nat) (c d : Cap) : Heap := [bS N P Q', bX N a b, bU N, some ⟨.ro, scs (2 ^ N) g⟩, some ⟨.ro, scs (2 ^ N) h⟩, rob Lf N, rob Rf N, rob us N, some ⟨.loop r, tm⟩, A t 15 16, B t, C t,
  some ⟨.rw, lc (Ps us Lf Rf P t) ++ (lc Q' ++ [.sl 13 0 (2 ^ (N - t)) c, .sl 14 0 (2 ^ (N - t)) d])⟩, some ⟨.ro, scs (2 ^ (N - t)) (Gs us g N t)⟩, some ⟨.ro, scs (2 ^ (N - t)) (Hs us h N t)⟩, Z t, W t]
end
end
section
attribute [local go_sem ↓] lc_len lc_take lc_drop lc_known lc_one lc_rens lc_cells lw_known lw_agg lw_asG scs_known scs_one scs_len lc_take_add lc_drop_add lenO_dv dv_known dv_one dv_ren
attribute [local go_sem] lt_nat lt_natl lt_lnat lt_ll bool_tf bool_ft
set_option maxRecDepth 100000
set_option maxHeartbeats 2000000
theorem dv_zero (b : Nat) : dv b 0 = .nils := rfl
theorem db_zero (g : Nat → Nat) : db g 0 = none := rfl
theorem scs_tk0 (f : Nat → Nat) : scs 0 f = [] := rfl
theorem bfit_g {f : Nat → Nat} {k : Kind} {c : List V} (h : rens f c = c) : bfit f (some ⟨k, c⟩) (some ⟨k, c⟩) := ⟨.inl rfl, fit_same h⟩
theorem bfit_x {f : Nat → Nat} {x y x' y' : V} {a b : Nat} (hx : ren f x = x') (hy : ren f y = y') : bfit f (some ⟨.rw, x :: y :: (lc a ++ lc b)⟩) (some ⟨.rw, x' :: y' :: (lc a ++ lc b)⟩) := by
  refine ⟨.inl rfl, ?_⟩
  have h := fit_rens f (x :: y :: (lc a ++ lc b))
  simpa only [rens_append, lc_rens, rens, hx, hy] using h
theorem bfit_u {f : Nat → Nat} {x x' : V} (hx : ren f x = x') : bfit f (some ⟨.rw, [x]⟩) (some ⟨.rw, [x']⟩) := by
  refine ⟨.inl rfl, ?_⟩
  have h := fit_rens f [x]
  simpa only [rens, hx] using h
end
end Go.Vs.Tryd
namespace Go.Vs.Tryd
open Go.Proofs
variable {G : Nat → List V}
set_option linter.unusedSimpArgs false
attribute [local go_sem] lenO_nils lenO_sl sliceAtV Int.sub_zero List.length_append List.all_append ge_iff_le gt_iff_lt Int.natCast_nonneg Int.toNat_natCast Nat.mul_one b_and_ll b_shr_ll b_mul_ll b_add_ll b_or_ll b_shl_ll pick_ll pick_lc pick_bb driveS stopV Option.isSome_some Option.isSome_none Kind.m Kind.w Kind.g look_ro look_rw look_grow drive stepV exo expo evs fillV isNil nilKind eqV eqL optA optM sliceAtV ev kn ldc stc splice appV srcV lenV setd wantV exitV rvs rv one List.length_cons List.length_nil List.cons_append List.nil_append List.append_nil List.replicate List.getD_cons_zero List.getD_cons_succ List.set_cons_zero List.set_cons_succ List.getElem?_cons_zero List.getElem?_cons_succ List.getElem?_nil List.take_succ_cons List.take_zero List.take_nil List.drop_succ_cons List.drop_zero List.drop_nil List.all_cons List.all_nil List.any_cons List.any_nil Bool.and_true Bool.true_and Bool.and_self Option.map_some Option.map_none Option.bind_some Option.some.injEq Nat.add_zero Nat.zero_add Int.toNat_zero Int.toNat_one Int.zero_add Int.add_zero if_true if_false ite_true ite_false and_true true_and and_self ne_eq not_false_eq_true not_true_eq_false decide_true decide_false Bool.false_eq_true Bool.not_true Bool.not_false beq_self_eq_true BEq.rfl Bool.not_eq_true Nat.le_refl Int.le_refl Nat.zero_le List.foldl List.map_cons List.map_nil Prod.mk.injEq Int.cast_ofNat_Int Int.zero_le_ofNat b_add_cc b_add_cl b_add_lc b_mul_cc b_mul_cl b_mul_lc b_sub_cc b_sub_cl b_sub_lc b_and_cc b_and_cl b_and_lc b_or_cc b_or_cl b_or_lc b_xor_cc b_xor_cl b_xor_lc b_andNot_cc b_andNot_cl b_andNot_lc b_shr_cc b_shr_cl b_shr_lc b_shl_cc b_shl_cl b_shl_lc b_lss b_leq b_gtr b_geq b_add_i b_sub_i b_mul_i beq_cc beq_cl beq_lc beq_ll b_quo_i b_rem_i neg_u64 wrap_i64 driveD stepD idsAt idOf maskH_nil restore_nil restore_mask List.filterMap_nil List.filterMap_cons VOp.looks VOp.makes exA cells_agg cells_int cells_bool cells_str cells_nilp cells_ptr cells_glob cells_nils cells_sl cells_nilf cells_fn cells_nili cells_ifc known_agg known_tup known_int known_bool known_str known_nilp known_ptr known_glob known_nils known_sl known_nilf known_fn known_nili known_ifc known_unk one_agg one_tup one_int one_bool one_str one_nilp one_ptr one_glob one_nils one_sl one_nilf one_fn one_nili one_ifc asK_int asN_int asB_bool asS_str asG_agg asT_tup
attribute [local go_sem_proc] Nat.reduceAdd Nat.reduceSub Nat.reduceLeDiff Nat.reduceMul Nat.reduceLT Nat.reduceEqDiff Int.reduceLT Int.reduceLE Int.reduceAdd Int.reduceSub Int.reduceMul Int.reduceToNat reduceIte reduceCtorEq Nat.reduceBEq
attribute [local go_sem ↓] lc_len lc_take lc_drop lc_known lc_one lc_rens lc_cells lw_known lw_agg lw_asG scs_known scs_one scs_len
attribute [local go_sem] lt_nat lt_natl lt_lnat lt_ll bool_tf bool_ft
attribute [local go_sem ↓] ecs_len ecs_take ecs_drop ecs_known ecs_one ecs_rens ecs_fit ecs_cells ew_known ew_agg ew_asG ecs_kind ecs_k ecs_l ers_known ers_one ers_len ers_rens ers_fit
set_option maxRecDepth 100000
set_option maxHeartbeats 1000000
attribute [local go_sem ↓] ivl_known ivl_one lc_take_add lc_drop_add ecs_take_add ecs_drop_add de_known de_one
theorem argument (l r : Nat → Nat) (hl : ∀ j, l j < 115792089237316195423570985008687907853269984665640564039457584007913129639936) (hr : ∀ j, r j < 115792089237316195423570985008687907853269984665640564039457584007913129639936) (Q' P ea eb' nG mG nH mH nA mA nB mB nL mL nR mR nU mU : Nat) (zG zH zA zB zL zR zU : Bool) (hL : Ok nL mL zL) (hR : Ok nR mR zR) (hA : ea < 115792089237316195423570985008687907853269984665640564039457584007913129639936) (hB : eb' < 115792089237316195423570985008687907853269984665640564039457584007913129639936) (sc lab : V) (hsk : sc.known = true) (hlk : lab.known = true) (N : Int) (Q : V → Heap → Prop)
    (hQ : Q (.tup [arL (.sl 7 0 (min nL 2100) (.exact (min nL 2100 + 1))) (.sl 8 0 (min nR 2100) (.exact (min nR 2100 + 1))) ea eb', arE (de 9 (min nL 2100)) (de 10 (min nR 2100)) (ea % ell) (eb' % ell)])
      [none, none, none, none, ivb l nL zL, ivb r nR zR, none, some ⟨.ro, scs (min nL 2100) l ++ lc 77⟩, some ⟨.ro, scs (min nR 2100) r ++ lc 77⟩, eb (fun j => l j % ell) (min nL 2100), eb (fun j => r j % ell) (min nR 2100)]) :
    VCall Tryd.prog G 8 [.agg (cas Q' P (ivl 0 nG mG zG) (ivl 1 nH mH zH) (ivl 2 nA mA zA) (ivl 3 nB mB zB) (ivl 4 nL mL zL) (ivl 5 nR mR zR) ea eb' sc (ivl 6 nU mU zU) lab (.int .i64 N))] [none, none, none, none, ivb l nL zL, ivb r nR zR, none] Q := by
  have b1 : List.take 4 (lc ea) = lc ea := rfl
  have b2 : List.take 4 (lc eb') = lc eb' := rfl
  have b3 : ∀ r, List.take 4 (lc ea ++ r) = lc ea := fun _ => rfl
  have b4 : ∀ r, List.take 4 (lc eb' ++ r) = lc eb' := fun _ => rfl
  refine vcall_body Tryd.func8 nm8 code8 nt8 ?_
  unfold cas
  refine run_driveS 80 ?_
  simp only [go_sem, v8, v8_0]
  refine run_drw (by kernel_rfl) ?_
  refine drun_drive 40 (p := (_, _)) ?_
  simp only [go_sem, v8_1, hsk, hlk, b1, b2, b3, b4]
  refine drun_call' ?_
  simp only [go_sem, calV, restore, Option.join_some, maskH, List.mapIdx_cons, List.mapIdx_nil, List.contains_cons, List.contains_nil, Bool.or_false, Bool.or_true, Bool.false_or, Bool.true_or, Nat.reduceBEq]
  refine lines_at l nL mL zL hL 4 rfl ?_
  refine drun_drive 40 (p := (_, _)) ?_
  simp only [go_sem, restore, Option.join_some, maskH, List.mapIdx_cons, List.mapIdx_nil, List.contains_cons, List.contains_nil, Bool.or_false, Bool.or_true, Bool.false_or, Bool.true_or, Nat.reduceBEq, b1, b2, b3, b4, de_cells, b1, b2, b3, b4]
  refine drun_call' ?_
  simp only [go_sem, calV, restore, Option.join_some, maskH, List.mapIdx_cons, List.mapIdx_nil, List.contains_cons, List.contains_nil, Bool.or_false, Bool.or_true, Bool.false_or, Bool.true_or, Nat.reduceBEq]
  refine lines_at r nR mR zR hR 5 rfl ?_
  refine drun_drive 40 (p := (_, _)) ?_
  simp only [go_sem, restore, Option.join_some, maskH, List.mapIdx_cons, List.mapIdx_nil, List.contains_cons, List.contains_nil, Bool.or_false, Bool.or_true, Bool.false_or, Bool.true_or, Nat.reduceBEq, b1, b2, b3, b4, de_cells, b1, b2, b3, b4]
  refine drun_call' ?_
  simp only [go_sem, calV, restore, Option.join_some, maskH, List.mapIdx_cons, List.mapIdx_nil, List.contains_cons, List.contains_nil, Bool.or_false, Bool.or_true, Bool.false_or, Bool.true_or, Nat.reduceBEq]
  refine doc_lines_at l hl nL mL zL hL 4 rfl ?_
  refine drun_drive 40 (p := (_, _)) ?_
  simp only [go_sem, restore, Option.join_some, maskH, List.mapIdx_cons, List.mapIdx_nil, List.contains_cons, List.contains_nil, Bool.or_false, Bool.or_true, Bool.false_or, Bool.true_or, Nat.reduceBEq, b1, b2, b3, b4, de_cells, b1, b2, b3, b4]
  refine drun_call' ?_
  simp only [go_sem, calV, restore, Option.join_some, maskH, List.mapIdx_cons, List.mapIdx_nil, List.contains_cons, List.contains_nil, Bool.or_false, Bool.or_true, Bool.false_or, Bool.true_or, Nat.reduceBEq]
  refine doc_lines_at r hr nR mR zR hR 5 rfl ?_
  refine drun_drive 40 (p := (_, _)) ?_
  simp only [go_sem, restore, Option.join_some, maskH, List.mapIdx_cons, List.mapIdx_nil, List.contains_cons, List.contains_nil, Bool.or_false, Bool.or_true, Bool.false_or, Bool.true_or, Nat.reduceBEq, b1, b2, b3, b4, de_cells, b1, b2, b3, b4]
  refine drun_call' ?_
  simp only [go_sem, calV, restore, Option.join_some, maskH, List.mapIdx_cons, List.mapIdx_nil, List.contains_cons, List.contains_nil, Bool.or_false, Bool.or_true, Bool.false_or, Bool.true_or, Nat.reduceBEq]
  refine ref_least ea hA ?_
  refine drun_drive 40 (p := (_, _)) ?_
  simp only [go_sem, restore, Option.join_some, maskH, List.mapIdx_cons, List.mapIdx_nil, List.contains_cons, List.contains_nil, Bool.or_false, Bool.or_true, Bool.false_or, Bool.true_or, Nat.reduceBEq, de_cells, b1, b2, b3, b4]
  refine drun_call' ?_
  simp only [go_sem, calV, restore, Option.join_some, maskH, List.mapIdx_cons, List.mapIdx_nil, List.contains_cons, List.contains_nil, Bool.or_false, Bool.or_true, Bool.false_or, Bool.true_or, Nat.reduceBEq]
  refine ref_least eb' hB ?_
  refine drun_drive 40 (p := (_, _)) ?_
  simp only [go_sem, restore, Option.join_some, maskH, List.mapIdx_cons, List.mapIdx_nil, List.contains_cons, List.contains_nil, Bool.or_false, Bool.or_true, Bool.false_or, Bool.true_or, Nat.reduceBEq, de_cells, b1, b2, b3, b4]
  refine drun_end ?_
  refine run_ret_drop Tryd.func8 res8 [0, 1, 2, 3, 4, 5, 6, 10, 11, 12, 13] _ _ rfl (by simp) ?_ ?_ ?_ hQ
  · exact hfit_cons_none (hfit_cons_none (hfit_cons_none (hfit_cons_none (hfit_cons rfl bfit_ivb (hfit_cons rfl bfit_ivb (hfit_cons_none (hfit_cons rfl bfit_sm (hfit_cons rfl bfit_sm (hfit_cons rfl bfit_eb (hfit_cons rfl bfit_eb hfit_nil))))))))))
  · simp [uniq, wrB_ivb, wrB_eb, wrB]
  · simp only [go_sem, rr8, ren, rens, gmap, de_ren, arL, arE, rens_append, lc_rens, ecs_rens, List.append_assoc]
end Go.Vs.Tryd
namespace Go.Vs.Tryd
open Go.Proofs
variable {G : Nat → List V}
set_option linter.unusedSimpArgs false
attribute [local go_sem] lenO_nils lenO_sl sliceAtV Int.sub_zero List.length_append List.all_append ge_iff_le gt_iff_lt Int.natCast_nonneg Int.toNat_natCast Nat.mul_one b_and_ll b_shr_ll b_mul_ll b_add_ll b_or_ll b_shl_ll pick_ll pick_lc pick_bb driveS stopV Option.isSome_some Option.isSome_none Kind.m Kind.w Kind.g look_ro look_rw look_grow drive stepV exo expo evs fillV isNil nilKind eqV eqL optA optM sliceAtV ev kn ldc stc splice appV srcV lenV setd wantV exitV rvs rv one List.length_cons List.length_nil List.cons_append List.nil_append List.append_nil List.replicate List.getD_cons_zero List.getD_cons_succ List.set_cons_zero List.set_cons_succ List.getElem?_cons_zero List.getElem?_cons_succ List.getElem?_nil List.take_succ_cons List.take_zero List.take_nil List.drop_succ_cons List.drop_zero List.drop_nil List.all_cons List.all_nil List.any_cons List.any_nil Bool.and_true Bool.true_and Bool.and_self Option.map_some Option.map_none Option.bind_some Option.some.injEq Nat.add_zero Nat.zero_add Int.toNat_zero Int.toNat_one Int.zero_add Int.add_zero if_true if_false ite_true ite_false and_true true_and and_self ne_eq not_false_eq_true not_true_eq_false decide_true decide_false Bool.false_eq_true Bool.not_true Bool.not_false beq_self_eq_true BEq.rfl Bool.not_eq_true Nat.le_refl Int.le_refl Nat.zero_le List.foldl List.map_cons List.map_nil Prod.mk.injEq Int.cast_ofNat_Int Int.zero_le_ofNat b_add_cc b_add_cl b_add_lc b_mul_cc b_mul_cl b_mul_lc b_sub_cc b_sub_cl b_sub_lc b_and_cc b_and_cl b_and_lc b_or_cc b_or_cl b_or_lc b_xor_cc b_xor_cl b_xor_lc b_andNot_cc b_andNot_cl b_andNot_lc b_shr_cc b_shr_cl b_shr_lc b_shl_cc b_shl_cl b_shl_lc b_lss b_leq b_gtr b_geq b_add_i b_sub_i b_mul_i beq_cc beq_cl beq_lc beq_ll b_quo_i b_rem_i neg_u64 wrap_i64 driveD stepD idsAt idOf maskH_nil restore_nil restore_mask List.filterMap_nil List.filterMap_cons VOp.looks VOp.makes exA cells_agg cells_int cells_bool cells_str cells_nilp cells_ptr cells_glob cells_nils cells_sl cells_nilf cells_fn cells_nili cells_ifc known_agg known_tup known_int known_bool known_str known_nilp known_ptr known_glob known_nils known_sl known_nilf known_fn known_nili known_ifc known_unk one_agg one_tup one_int one_bool one_str one_nilp one_ptr one_glob one_nils one_sl one_nilf one_fn one_nili one_ifc asK_int asN_int asB_bool asS_str asG_agg asT_tup true_or or_true false_or or_false
attribute [local go_sem_proc] Nat.reduceAdd Nat.reduceSub Nat.reduceLeDiff Nat.reduceMul Nat.reduceLT Nat.reduceEqDiff Int.reduceLT Int.reduceLE Int.reduceAdd Int.reduceSub Int.reduceMul Int.reduceToNat reduceIte reduceCtorEq Nat.reduceBEq
attribute [local go_sem ↓] lc_len lc_take lc_drop lc_known lc_one lc_rens lc_cells lw_known lw_agg lw_asG scs_known scs_one scs_len
attribute [local go_sem] lt_nat lt_natl lt_lnat lt_ll
set_option maxRecDepth 100000
set_option maxHeartbeats 1000000
def fl (f : Nat → Nat) (N : Nat) : Nat → Nat := fun j => if j < N then f j else (3 * j + 2) % 18446744073709551616
end Go.Vs.Tryd
namespace Go.Vs.Tryd
instance nzell : NeZero ell := ⟨by decide⟩
end Go.Vs.Tryd
namespace Go.Vs.Tryd
open Go.Proofs
variable {G : Nat → List V}
set_option linter.unusedSimpArgs false
attribute [local go_sem] lenO_nils lenO_sl sliceAtV Int.sub_zero List.length_append List.all_append ge_iff_le gt_iff_lt Int.natCast_nonneg Int.toNat_natCast Nat.mul_one b_and_ll b_shr_ll b_mul_ll b_add_ll b_or_ll b_shl_ll pick_ll pick_lc pick_bb driveS stopV Option.isSome_some Option.isSome_none Kind.m Kind.w Kind.g look_ro look_rw look_grow drive stepV exo expo evs fillV isNil nilKind eqV eqL optA optM sliceAtV ev kn ldc stc splice appV srcV lenV setd wantV exitV rvs rv one List.length_cons List.length_nil List.cons_append List.nil_append List.append_nil List.replicate List.getD_cons_zero List.getD_cons_succ List.set_cons_zero List.set_cons_succ List.getElem?_cons_zero List.getElem?_cons_succ List.getElem?_nil List.take_succ_cons List.take_zero List.take_nil List.drop_succ_cons List.drop_zero List.drop_nil List.all_cons List.all_nil List.any_cons List.any_nil Bool.and_true Bool.true_and Bool.and_self Option.map_some Option.map_none Option.bind_some Option.some.injEq Nat.add_zero Nat.zero_add Int.toNat_zero Int.toNat_one Int.zero_add Int.add_zero if_true if_false ite_true ite_false and_true true_and and_self ne_eq not_false_eq_true not_true_eq_false decide_true decide_false Bool.false_eq_true Bool.not_true Bool.not_false beq_self_eq_true BEq.rfl Bool.not_eq_true Nat.le_refl Int.le_refl Nat.zero_le List.foldl List.map_cons List.map_nil Prod.mk.injEq Int.cast_ofNat_Int Int.zero_le_ofNat b_add_cc b_add_cl b_add_lc b_mul_cc b_mul_cl b_mul_lc b_sub_cc b_sub_cl b_sub_lc b_and_cc b_and_cl b_and_lc b_or_cc b_or_cl b_or_lc b_xor_cc b_xor_cl b_xor_lc b_andNot_cc b_andNot_cl b_andNot_lc b_shr_cc b_shr_cl b_shr_lc b_shl_cc b_shl_cl b_shl_lc b_lss b_leq b_gtr b_geq b_add_i b_sub_i b_mul_i beq_cc beq_cl beq_lc beq_ll b_quo_i b_rem_i neg_u64 wrap_i64 driveD stepD idsAt idOf maskH_nil restore_nil restore_mask List.filterMap_nil List.filterMap_cons VOp.looks VOp.makes exA cells_agg cells_int cells_bool cells_str cells_nilp cells_ptr cells_glob cells_nils cells_sl cells_nilf cells_fn cells_nili cells_ifc known_agg known_tup known_int known_bool known_str known_nilp known_ptr known_glob known_nils known_sl known_nilf known_fn known_nili known_ifc known_unk one_agg one_tup one_int one_bool one_str one_nilp one_ptr one_glob one_nils one_sl one_nilf one_fn one_nili one_ifc asK_int asN_int asB_bool asS_str asG_agg asT_tup
attribute [local go_sem_proc] Nat.reduceAdd Nat.reduceSub Nat.reduceLeDiff Nat.reduceMul Nat.reduceLT Nat.reduceEqDiff Int.reduceLT Int.reduceLE Int.reduceAdd Int.reduceSub Int.reduceMul Int.reduceToNat reduceIte reduceCtorEq Nat.reduceBEq
attribute [local go_sem ↓] lc_len lc_take lc_drop lc_known lc_one lc_rens lc_cells lw_known lw_agg lw_asG scs_known scs_one scs_len
attribute [local go_sem] lt_nat lt_natl lt_lnat lt_ll bool_tf bool_ft
attribute [local go_sem ↓] ecs_len ecs_take ecs_drop ecs_known ecs_one ecs_rens ecs_fit ecs_cells ew_known ew_agg ew_asG ecs_kind ecs_k ecs_l ers_known ers_one ers_len ers_rens ers_fit
set_option maxRecDepth 100000
set_option maxHeartbeats 1000000
def forg : List V → List V → Prop
  | [], [] => True
  | v :: r, u :: s => (v = .unk ∨ v = u) ∧ forg r s
  | _, _ => False
theorem forg_get : ∀ {l m : List V}, forg l m → l.length = m.length ∧ ∀ (i : Nat) v, l[i]? = some v → v ≠ .unk → m[i]? = some v
  | [], [], _ => ⟨rfl, fun i v h => by simp at h⟩
  | v :: r, u :: s, h => by
    obtain ⟨h1, h2⟩ := forg_get h.2
    refine ⟨by simp [h1], fun i x hx hne => ?_⟩
    cases i with
    | zero =>
      obtain rfl : v = x := by simpa using hx
      rcases h.1 with e | e
      · exact absurd e hne
      · simp [e]
    | succ i => exact h2 i x (by simpa using hx) hne
theorem run_tmps {P : Program} {f : FuncId} {n : Nat} {Q : V → Heap → Prop} {k : List TI} {l m : List V} {H : Heap} (ht : forg l m) (h : Run P G f n Q (k, ⟨l, H⟩)) : Run P G f n Q (k, ⟨m, H⟩) := by
  intro ρ₀ h₀ w₀ ρ a w hn hk hsim htr hd
  obtain ⟨e1, e2⟩ := forg_get ht
  exact h ρ₀ h₀ w₀ ρ a w hn hk hsim ⟨by rw [← htr.1]; exact e1, fun t v hv hne => htr.2 t _ (e2 t v hv hne) hne⟩ hd
def trs (m : Nat) (K P : Nat → Nat) : List V := row m fun j => lc (K j) ++ lc (P j)
theorem trs_len (m : Nat) (K P : Nat → Nat) : (trs m K P).length = m * 8 := row_len (s := 8) (e := fun j => lc (K j) ++ lc (P j)) (fun _ => rfl) m
theorem trs_known (m : Nat) (K P : Nat → Nat) : (trs m K P).all V.known = true := row_all (fun _ => rfl) m
attribute [local go_sem ↓] trs_len trs_known
end Go.Vs.Tryd
namespace Go.Vs.Tryd
open Go.Proofs
variable {G : Nat → List V}
set_option linter.unusedSimpArgs false
attribute [local go_sem] lenO_nils lenO_sl sliceAtV Int.sub_zero List.length_append List.all_append ge_iff_le gt_iff_lt Int.natCast_nonneg Int.toNat_natCast Nat.mul_one b_and_ll b_shr_ll b_mul_ll b_add_ll b_or_ll b_shl_ll pick_ll pick_lc pick_bb driveS stopV Option.isSome_some Option.isSome_none Kind.m Kind.w Kind.g look_ro look_rw look_grow drive stepV exo expo evs fillV isNil nilKind eqV eqL optA optM sliceAtV ev kn ldc stc splice appV srcV lenV setd wantV exitV rvs rv one List.length_cons List.length_nil List.cons_append List.nil_append List.append_nil List.replicate List.getD_cons_zero List.getD_cons_succ List.set_cons_zero List.set_cons_succ List.getElem?_cons_zero List.getElem?_cons_succ List.getElem?_nil List.take_succ_cons List.take_zero List.take_nil List.drop_succ_cons List.drop_zero List.drop_nil List.all_cons List.all_nil List.any_cons List.any_nil Bool.and_true Bool.true_and Bool.and_self Option.map_some Option.map_none Option.bind_some Option.some.injEq Nat.add_zero Nat.zero_add Int.toNat_zero Int.toNat_one Int.zero_add Int.add_zero if_true if_false ite_true ite_false and_true true_and and_self ne_eq not_false_eq_true not_true_eq_false decide_true decide_false Bool.false_eq_true Bool.not_true Bool.not_false beq_self_eq_true BEq.rfl Bool.not_eq_true Nat.le_refl Int.le_refl Nat.zero_le List.foldl List.map_cons List.map_nil Prod.mk.injEq Int.cast_ofNat_Int Int.zero_le_ofNat b_add_cc b_add_cl b_add_lc b_mul_cc b_mul_cl b_mul_lc b_sub_cc b_sub_cl b_sub_lc b_and_cc b_and_cl b_and_lc b_or_cc b_or_cl b_or_lc b_xor_cc b_xor_cl b_xor_lc b_andNot_cc b_andNot_cl b_andNot_lc b_shr_cc b_shr_cl b_shr_lc b_shl_cc b_shl_cl b_shl_lc b_lss b_leq b_gtr b_geq b_add_i b_sub_i b_mul_i beq_cc beq_cl beq_lc beq_ll b_quo_i b_rem_i neg_u64 wrap_i64 driveD stepD idsAt idOf maskH_nil restore_nil restore_mask List.filterMap_nil List.filterMap_cons VOp.looks VOp.makes exA cells_agg cells_int cells_bool cells_str cells_nilp cells_ptr cells_glob cells_nils cells_sl cells_nilf cells_fn cells_nili cells_ifc known_agg known_tup known_int known_bool known_str known_nilp known_ptr known_glob known_nils known_sl known_nilf known_fn known_nili known_ifc known_unk one_agg one_tup one_int one_bool one_str one_nilp one_ptr one_glob one_nils one_sl one_nilf one_fn one_nili one_ifc asK_int asN_int asB_bool asS_str asG_agg asT_tup true_or or_true false_or or_false
attribute [local go_sem_proc] Nat.reduceAdd Nat.reduceSub Nat.reduceLeDiff Nat.reduceMul Nat.reduceLT Nat.reduceEqDiff Int.reduceLT Int.reduceLE Int.reduceAdd Int.reduceSub Int.reduceMul Int.reduceToNat reduceIte reduceCtorEq Nat.reduceBEq
section
attribute [local go_sem ↓] lc_len lc_take lc_drop lc_known lc_one lc_rens lc_cells lw_known lw_agg lw_asG scs_known scs_one scs_len lc_take_add lc_drop_add lenO_dv dv_known dv_one dv_ren
attribute [local go_sem] lt_nat lt_natl lt_lnat lt_ll bool_tf bool_ft
set_option maxRecDepth 100000
set_option maxHeartbeats 2000000
theorem ivl_pos {i n m : Nat} {z : Bool} (ho : Ok n m z) (h : 0 < n) : ivl i n m z = .sl i 0 n (.exact m) := if_neg (fun e => by have := ho.2 e; omega)
theorem ivb_pos {f : Nat → Nat} {n m : Nat} {z : Bool} (ho : Ok n m z) (h : 0 < n) : ivb f n z = some ⟨.ro, scs n f⟩ := if_neg (fun e => by have := ho.2 e; omega)
theorem lenO_ivl' {i n m : Nat} {z : Bool} (ho : Ok n m z) : lenO (ivl i n m z) = some n := by
  cases z
  · rfl
  · obtain rfl := ho.2 rfl
    rfl
theorem ivl_one' (i n m : Nat) (z : Bool) : (ivl i n m z).one = true := by cases z <;> rfl
attribute [local go_sem] ivl_known ivl_one'
theorem bfit_dbg {g f : Nat → Nat} {n : Nat} : bfit g (db f n) (db f n) := by
  unfold db
  split
  · trivial
  · exact bfit_g (scs_rens ..)
section
variable (u : Nat → Nat) (N m : Nat) (z : Bool) (g0 h0 : V) (B0 B1 : Option Blk)
def kh (us : Nat → Nat) (k : Nat) : Heap := [B0, B1, ivb u N z, db us k]
end
end
section
attribute [local go_sem ↓] lc_len lc_take lc_drop lc_known lc_one lc_rens lc_cells lw_known lw_agg lw_asG scs_known scs_one scs_len lc_take_add lc_drop_add lenO_dv dv_known dv_one dv_ren
attribute [local go_sem] lt_nat lt_natl lt_lnat lt_ll bool_tf bool_ft
set_option maxRecDepth 100000
set_option maxHeartbeats 2000000
section
variable (us g h Lf Rf : Nat → Nat) (N P Q' : Nat)
def B5 (t : Nat) : Option Blk := some ⟨.rw, [.int .i64 t]⟩
end
end
end Go.Vs.Tryd
namespace Go.Vs.Tryd
open Go.Proofs
variable {G : Nat → List V}
set_option linter.unusedSimpArgs false
attribute [local go_sem] lenO_nils lenO_sl sliceAtV Int.sub_zero List.length_append List.all_append ge_iff_le gt_iff_lt Int.natCast_nonneg Int.toNat_natCast Nat.mul_one b_and_ll b_shr_ll b_mul_ll b_add_ll b_or_ll b_shl_ll pick_ll pick_lc pick_bb driveS stopV Option.isSome_some Option.isSome_none Kind.m Kind.w Kind.g look_ro look_rw look_grow drive stepV exo expo evs fillV isNil nilKind eqV eqL optA optM sliceAtV ev kn ldc stc splice appV srcV lenV setd wantV exitV rvs rv one List.length_cons List.length_nil List.cons_append List.nil_append List.append_nil List.replicate List.getD_cons_zero List.getD_cons_succ List.set_cons_zero List.set_cons_succ List.getElem?_cons_zero List.getElem?_cons_succ List.getElem?_nil List.take_succ_cons List.take_zero List.take_nil List.drop_succ_cons List.drop_zero List.drop_nil List.all_cons List.all_nil List.any_cons List.any_nil Bool.and_true Bool.true_and Bool.and_self Option.map_some Option.map_none Option.bind_some Option.some.injEq Nat.add_zero Nat.zero_add Int.toNat_zero Int.toNat_one Int.zero_add Int.add_zero if_true if_false ite_true ite_false and_true true_and and_self ne_eq not_false_eq_true not_true_eq_false decide_true decide_false Bool.false_eq_true Bool.not_true Bool.not_false beq_self_eq_true BEq.rfl Bool.not_eq_true Nat.le_refl Int.le_refl Nat.zero_le List.foldl List.map_cons List.map_nil Prod.mk.injEq Int.cast_ofNat_Int Int.zero_le_ofNat b_add_cc b_add_cl b_add_lc b_mul_cc b_mul_cl b_mul_lc b_sub_cc b_sub_cl b_sub_lc b_and_cc b_and_cl b_and_lc b_or_cc b_or_cl b_or_lc b_xor_cc b_xor_cl b_xor_lc b_andNot_cc b_andNot_cl b_andNot_lc b_shr_cc b_shr_cl b_shr_lc b_shl_cc b_shl_cl b_shl_lc b_lss b_leq b_gtr b_geq b_add_i b_sub_i b_mul_i beq_cc beq_cl beq_lc beq_ll b_quo_i b_rem_i neg_u64 wrap_i64 driveD stepD idsAt idOf maskH_nil restore_nil restore_mask List.filterMap_nil List.filterMap_cons VOp.looks VOp.makes exA cells_agg cells_int cells_bool cells_str cells_nilp cells_ptr cells_glob cells_nils cells_sl cells_nilf cells_fn cells_nili cells_ifc known_agg known_tup known_int known_bool known_str known_nilp known_ptr known_glob known_nils known_sl known_nilf known_fn known_nili known_ifc known_unk one_agg one_tup one_int one_bool one_str one_nilp one_ptr one_glob one_nils one_sl one_nilf one_fn one_nili one_ifc asK_int asN_int asB_bool asS_str asG_agg asT_tup
attribute [local go_sem_proc] Nat.reduceAdd Nat.reduceSub Nat.reduceLeDiff Nat.reduceMul Nat.reduceLT Nat.reduceEqDiff Int.reduceLT Int.reduceLE Int.reduceAdd Int.reduceSub Int.reduceMul Int.reduceToNat reduceIte reduceCtorEq Nat.reduceBEq
attribute [local go_sem ↓] lc_len lc_take lc_drop lc_known lc_one lc_rens lc_cells lw_known lw_agg lw_asG scs_known scs_one scs_len
attribute [local go_sem] lt_nat lt_natl lt_lnat lt_ll bool_tf bool_ft
attribute [local go_sem ↓] ecs_len ecs_take ecs_drop ecs_known ecs_one ecs_rens ecs_fit ecs_cells ew_known ew_agg ew_asG ecs_kind ecs_k ecs_l ers_known ers_one ers_len ers_rens ers_fit
set_option maxRecDepth 100000
set_option maxHeartbeats 1000000
attribute [local go_sem ↓] ivl_known ivl_one lc_take_add lc_drop_add ecs_take_add ecs_drop_add lenO_de lenO_dv de_known dv_known de_one dv_one de_ren dv_ren
attribute [local go_sem ↓] trs_len trs_known
theorem eb_map (f : Nat → Nat) (n : Nat) (g : Nat → Nat) : (eb f n).map (renB g) = eb f n := by
  unfold eb
  split
  · rfl
  · simp only [Option.map_some, renB, ers_rens]
theorem scalars_at (f : Nat → Nat) (n m : Nat) (z : Bool) (hok : Ok n m z) (p : Nat) {h : Heap} (hp : h[p]? = some (ivb f n z)) (n' : Nat) (hn' : n' = min n 2100) {R : V → Heap → Prop} (hR : R (.sl h.length 0 n' (.exact (n' + 1))) (h ++ [some ⟨.rw, scs n' f ++ lc 78⟩])) : VCall Tryd.prog G 10 [ivl p n m z] h R := by
  refine vcall_at (scalars f n n' (ivl 0 n m z) (ivb f n z) (In_iv hok) hn' (fun v k => v = .sl 1 0 n' (.exact (n' + 1)) ∧ k = [ivb f n z, some ⟨.rw, scs n' f ++ lc 78⟩]) ⟨rfl, rfl⟩) [p] ?_ (hfit_one hp) ?_ ?_ ?_
  · intro i hi
    obtain rfl : i = p := by simpa using hi
    exact (List.getElem?_eq_some_iff.1 hp).1
  · simp [uniq]
  · simp only [rens, ivl_ren, gmap]
  · rintro v k ⟨rfl, rfl⟩
    rw [puts_ro (by simp [wrB_ivb]) rfl (by simp)]
    simpa [ren, gmap, renB, rens_append, scs_rens, lc_rens] using hR
theorem db_map (f : Nat → Nat) (n : Nat) (g : Nat → Nat) : (db f n).map (renB g) = db f n := by
  unfold db
  split
  · rfl
  · simp only [Option.map_some, renB, scs_rens]
theorem doc_scalars_at (f : Nat → Nat) (hf : ∀ j, f j < 115792089237316195423570985008687907853269984665640564039457584007913129639936) (n m : Nat) (z : Bool) (hok : Ok n m z) (p : Nat) {h : Heap} (hp : h[p]? = some (ivb f n z)) (n' : Nat) (hn' : n' = min n 2100) {R : V → Heap → Prop} (hR : R (dv h.length n') (h ++ [db (fun j => f j % ell) n'])) : VCall Tryd.prog G 11 [ivl p n m z] h R := by
  refine vcall_at (doc_scalars f hf n n' (ivl 0 n m z) (ivb f n z) (In_iv hok) hn' (fun v k => v = dv 1 n' ∧ k = [ivb f n z, db (fun j => f j % ell) n']) ⟨rfl, rfl⟩) [p] ?_ (hfit_one hp) ?_ ?_ ?_
  · intro i hi
    obtain rfl : i = p := by simpa using hi
    exact (List.getElem?_eq_some_iff.1 hp).1
  · simp [uniq]
  · simp only [rens, ivl_ren, gmap]
  · rintro v k ⟨rfl, rfl⟩
    rw [puts_ro (by simp [wrB_ivb]) rfl (by simp)]
    have e : ren (gmap [p] h.length) (dv 1 n') = dv h.length n' := by rw [dv_ren]; rfl
    rw [e]
    simpa [db_map] using hR
theorem bfit_db {g f : Nat → Nat} {n : Nat} : bfit g (rob f n) (db f n) := by
  unfold rob db
  split
  · trivial
  · exact bfit_same (scs_rens ..)
theorem wrB_ro (c : List V) : wrB (some ⟨.ro, c⟩) = false := rfl
end Go.Vs.Tryd
namespace Go.Vs.Tryd
open Go.Proofs
variable {G : Nat → List V}
set_option linter.unusedSimpArgs false
attribute [local go_sem] lenO_nils lenO_sl sliceAtV Int.sub_zero List.length_append List.all_append ge_iff_le gt_iff_lt Int.natCast_nonneg Int.toNat_natCast Nat.mul_one b_and_ll b_shr_ll b_mul_ll b_add_ll b_or_ll b_shl_ll pick_ll pick_lc pick_bb driveS stopV Option.isSome_some Option.isSome_none Kind.m Kind.w Kind.g look_ro look_rw look_grow drive stepV exo expo evs fillV isNil nilKind eqV eqL optA optM sliceAtV ev kn ldc stc splice appV srcV lenV setd wantV exitV rvs rv one List.length_cons List.length_nil List.cons_append List.nil_append List.append_nil List.replicate List.getD_cons_zero List.getD_cons_succ List.set_cons_zero List.set_cons_succ List.getElem?_cons_zero List.getElem?_cons_succ List.getElem?_nil List.take_succ_cons List.take_zero List.take_nil List.drop_succ_cons List.drop_zero List.drop_nil List.all_cons List.all_nil List.any_cons List.any_nil Bool.and_true Bool.true_and Bool.and_self Option.map_some Option.map_none Option.bind_some Option.some.injEq Nat.add_zero Nat.zero_add Int.toNat_zero Int.toNat_one Int.zero_add Int.add_zero if_true if_false ite_true ite_false and_true true_and and_self ne_eq not_false_eq_true not_true_eq_false decide_true decide_false Bool.false_eq_true Bool.not_true Bool.not_false beq_self_eq_true BEq.rfl Bool.not_eq_true Nat.le_refl Int.le_refl Nat.zero_le List.foldl List.map_cons List.map_nil Prod.mk.injEq Int.cast_ofNat_Int Int.zero_le_ofNat b_add_cc b_add_cl b_add_lc b_mul_cc b_mul_cl b_mul_lc b_sub_cc b_sub_cl b_sub_lc b_and_cc b_and_cl b_and_lc b_or_cc b_or_cl b_or_lc b_xor_cc b_xor_cl b_xor_lc b_andNot_cc b_andNot_cl b_andNot_lc b_shr_cc b_shr_cl b_shr_lc b_shl_cc b_shl_cl b_shl_lc b_lss b_leq b_gtr b_geq b_add_i b_sub_i b_mul_i beq_cc beq_cl beq_lc beq_ll b_quo_i b_rem_i neg_u64 wrap_i64 driveD stepD idsAt idOf maskH_nil restore_nil restore_mask List.filterMap_nil List.filterMap_cons VOp.looks VOp.makes exA cells_agg cells_int cells_bool cells_str cells_nilp cells_ptr cells_glob cells_nils cells_sl cells_nilf cells_fn cells_nili cells_ifc known_agg known_tup known_int known_bool known_str known_nilp known_ptr known_glob known_nils known_sl known_nilf known_fn known_nili known_ifc known_unk one_agg one_tup one_int one_bool one_str one_nilp one_ptr one_glob one_nils one_sl one_nilf one_fn one_nili one_ifc asK_int asN_int asB_bool asS_str asG_agg asT_tup true_or or_true false_or or_false
attribute [local go_sem_proc] Nat.reduceAdd Nat.reduceSub Nat.reduceLeDiff Nat.reduceMul Nat.reduceLT Nat.reduceEqDiff Int.reduceLT Int.reduceLE Int.reduceAdd Int.reduceSub Int.reduceMul Int.reduceToNat reduceIte reduceCtorEq Nat.reduceBEq
attribute [local go_sem ↓] lc_len lc_take lc_drop lc_known lc_one lc_rens lc_cells lw_known lw_agg lw_asG scs_known scs_one scs_len lc_take_add lc_drop_add lenO_dv dv_known dv_one dv_ren
attribute [local go_sem] lt_nat lt_natl lt_lnat lt_ll bool_tf bool_ft
attribute [local go_sem ↓] ecs_len ecs_take ecs_drop ecs_known ecs_one ecs_rens ecs_fit ecs_cells ew_known ew_agg ew_asG ecs_kind ecs_k ecs_l ers_known ers_one ers_len ers_rens ers_fit
attribute [local go_sem ↓] ecs_take_add ecs_drop_add lc_take_add lc_drop_add lenO_de lenO_dv de_known dv_known de_one dv_one de_ren dv_ren
set_option maxRecDepth 100000
set_option maxHeartbeats 2000000
theorem is_ (A K : Nat) (hA : A < 115792089237316195423570985008687907853269984665640564039457584007913129639936) (hK : K < 115792089237316195423570985008687907853269984665640564039457584007913129639936) {h : Heap} {R : V → Heap → Prop} (hQ : R (.bool (decide (A % ell = K))) h) : VCall Tryd.prog G 62 [lw A, ew K] h R := by
  refine vcall_plain (Q := fun v => v = .bool (decide (A % ell = K))) ?_ (fun g => by simp only [rens, lw_plain, ew_plain, ren]) (fun v g hv => by subst hv; exact rfl) (fun v hv => by subst hv; exact hQ)
  refine vcall_body Tryd.func62 nm62 code62 nt62 ?_
  have q := lc_eqL (mod_lt A) hK
  refine run_driveS 80 ?_
  simp only [go_sem, v62, v62_0]
  refine run_drw (by kernel_rfl) ?_
  refine drun_drive 40 (p := (_, _)) ?_
  simp only [go_sem, v62_1, restore, Option.join_some, maskH, List.mapIdx_cons, List.mapIdx_nil, List.contains_cons, List.contains_nil, Bool.or_false, Bool.or_true, Bool.false_or, Bool.true_or, Nat.reduceBEq]
  refine drun_call' ?_
  simp only [go_sem, calV, restore, Option.join_some, maskH, List.mapIdx_cons, List.mapIdx_nil, List.contains_cons, List.contains_nil, Bool.or_false, Bool.or_true, Bool.false_or, Bool.true_or, Nat.reduceBEq]
  refine ref_least _ hA ?_
  refine drun_drive 40 (p := (_, _)) ?_
  simp only [go_sem, q, restore, Option.join_some, maskH, List.mapIdx_cons, List.mapIdx_nil, List.contains_cons, List.contains_nil, Bool.or_false, Bool.or_true, Bool.false_or, Bool.true_or, Nat.reduceBEq]
  refine drun_end ?_
  refine run_driveS 80 ?_
  simp only [go_sem]
  refine run_ret_drop Tryd.func62 res62 [] (.bool (decide (A % ell = K))) [] rfl (by simp) trivial (by simp [uniq]) ?_ ⟨rfl, rfl⟩
  simp only [go_sem, rr62, lw_plain, ew_plain, ren]
theorem is_all (n : Nat) (hn : n < 1000000) (g : Nat → Nat) (hg : ∀ j, g j < 115792089237316195423570985008687907853269984665640564039457584007913129639936) (c1 c2 : Cap) (Q : V → Heap → Prop) (hQ : Q (.bool true) [some ⟨.ro, scs n g⟩, some ⟨.ro, ers n fun j => g j % ell⟩]) :
    VCall Tryd.prog G 63 [.sl 0 0 n c1, .sl 1 0 n c2] [some ⟨.ro, scs n g⟩, some ⟨.ro, ers n fun j => g j % ell⟩] Q := by
  have hf1 : ∀ f, bfit f (some ⟨.ro, scs n g⟩) (some ⟨.ro, scs n g⟩) := fun f => bfit_same (scs_rens ..)
  have hf2 : ∀ f, bfit f (some ⟨.ro, ers n fun j => g j % ell⟩) (some ⟨.ro, ers n fun j => g j % ell⟩) := fun f => bfit_same (ers_rens ..)
  refine vcall_body Tryd.func63 nm63 code63 nt63 ?_
  refine run_driveS 80 ?_
  simp only [go_sem, v63, v63_0, v63_1, eq_int, decide_true]
  refine run_cond_f (by rfl) ?_
  refine run_driveS 80 ?_
  simp only [go_sem, v63_3, v63_10]
  refine run_rename [0, 1] (st' := ⟨[.sl 0 0 n c1, .sl 1 0 n c2, .unk, .unk, .unk, .int .i64 (0 : Nat)] ++ List.replicate 21 .unk, [some ⟨.ro, scs n g⟩, some ⟨.ro, ers n fun j => g j % ell⟩]⟩) rfl (by simp) ?_ ?_ ?_ (run_for (fun i => ⟨[.sl 0 0 n c1, .sl 1 0 n c2, .unk, .unk, .unk, .int .i64 (i : Nat)] ++ List.replicate 21 .unk, [some ⟨.ro, scs n g⟩, some ⟨.ro, ers n fun j => g j % ell⟩]⟩) n (fun i hi ih => ?_) ?_)
  · exact hfit_cons rfl (hf1 _) (hfit_cons rfl (hf2 _) hfit_nil)
  · simp [uniq, wrB]
  · simp only [go_sem, hfit, lc_fit, scs_fit, fit, ren, gmap, lw_plain, true_or, or_true]
  · have h0 : ((i : Int) < (n : Int)) = True := eq_true (by omega)
    have hw : IntKind.i64.wrap ((i : Int) + 1) = ((i + 1 : Nat) : Int) := by rw [wrap_i64 (by omega) (by omega)]; omega
    have g1 := scs_get' n g (i := i) hi
    have g2 := ers_get n (fun j => g j % ell) (i := i) hi
    refine run_loop_eq v63_9.eq_1 ?_
    refine run_driveS 80 ?_
    simp only [go_sem, v63_4, v63_7, h0]
    refine run_drw (by kernel_rfl) ?_
    refine drun_drive 40 (p := (_, _)) ?_
    simp only [go_sem, v63_5, h0, g1, g2, restore, Option.join_some, maskH, List.mapIdx_cons, List.mapIdx_nil, List.contains_cons, List.contains_nil, Bool.or_false, Bool.or_true, Bool.false_or, Bool.true_or, Nat.reduceBEq]
    refine drun_call' ?_
    simp only [go_sem, calV, restore, Option.join_some, maskH, List.mapIdx_cons, List.mapIdx_nil, List.contains_cons, List.contains_nil, Bool.or_false, Bool.or_true, Bool.false_or, Bool.true_or, Nat.reduceBEq]
    refine is_ _ _ (hg i) (mod_lt _) ?_
    rw [decide_eq_true rfl]
    refine drun_drive 40 (p := (_, _)) ?_
    simp only [go_sem, restore, Option.join_some, maskH, List.mapIdx_cons, List.mapIdx_nil, List.contains_cons, List.contains_nil, Bool.or_false, Bool.or_true, Bool.false_or, Bool.true_or, Nat.reduceBEq]
    refine drun_end ?_
    refine run_driveS 80 ?_
    simp only [go_sem]
    refine run_cond_f (by rfl) ?_
    refine run_driveS 80 ?_
    simp only [go_sem, v63_8, hw]
    refine run_tmps ?_ ih
    simp only [go_sem, forg, true_or, or_true]
  · have h0 : ((n : Int) < (n : Int)) = False := eq_false (by omega)
    refine run_loop_eq v63_9.eq_1 ?_
    refine run_driveS 80 ?_
    simp only [go_sem, v63_4, h0]
    refine run_exit rfl ?_
    refine run_driveS 80 ?_
    simp only [go_sem, v63_11]
    refine run_ret_drop Tryd.func63 res63 [0, 1] (.bool true) _ rfl (by simp) ?_ ?_ ?_ hQ
    · exact hfit_cons rfl (hf1 _) (hfit_cons rfl (hf2 _) hfit_nil)
    · simp [uniq, wrB]
    · simp only [go_sem, rr63, ren]
theorem stL_take (P Q : Nat) (l : List V) : (lc P ++ (lc Q ++ l)).take 4 = lc P := rfl
theorem stL_take2 (P Q : Nat) (l : List V) : ((lc P ++ (lc Q ++ l)).drop 4).take 4 = lc Q := rfl
theorem stL_take3 (P Q : Nat) (x y : V) : ((lc P ++ (lc Q ++ [x, y])).drop 8).take 1 = [x] := rfl
theorem stL_take4 (P Q : Nat) (x y : V) : ((lc P ++ (lc Q ++ [x, y])).drop 9).take 1 = [y] := rfl
theorem stE_take2 (P Q : Nat) (l : List V) : ((ecs P ++ (ecs Q ++ l)).drop 26).take 26 = ecs Q := rfl
theorem stE_take3 (P Q : Nat) (x y : V) : ((ecs P ++ (ecs Q ++ [x, y])).drop 52).take 1 = [x] := rfl
theorem stE_take4 (P Q : Nat) (x y : V) : ((ecs P ++ (ecs Q ++ [x, y])).drop 53).take 1 = [y] := rfl
theorem statements_ (n : Nat) (hn : n < 1000000) (P Q' : Nat) (hP : P < 115792089237316195423570985008687907853269984665640564039457584007913129639936) (hQ' : Q' < 115792089237316195423570985008687907853269984665640564039457584007913129639936) (g h : Nat → Nat) (hg : ∀ j, g j < 115792089237316195423570985008687907853269984665640564039457584007913129639936) (hh : ∀ j, h j < 115792089237316195423570985008687907853269984665640564039457584007913129639936) (c1 c2 c3 c4 : Cap) (Q : V → Heap → Prop)
    (hQ : Q (.bool true) [some ⟨.ro, scs n g⟩, some ⟨.ro, scs n h⟩, some ⟨.ro, ers n fun j => g j % ell⟩, some ⟨.ro, ers n fun j => h j % ell⟩]) :
    VCall Tryd.prog G 21 [stL P Q' (.sl 0 0 n c1) (.sl 1 0 n c2), stE (P % ell) (Q' % ell) (.sl 2 0 n c3) (.sl 3 0 n c4)] [some ⟨.ro, scs n g⟩, some ⟨.ro, scs n h⟩, some ⟨.ro, ers n fun j => g j % ell⟩, some ⟨.ro, ers n fun j => h j % ell⟩] Q := by
  have hf1 : ∀ g f, bfit f (some ⟨.ro, scs n g⟩) (some ⟨.ro, scs n g⟩) := fun g f => bfit_same (scs_rens ..)
  have hf2 : ∀ (g : Nat → Nat) f, bfit f (some ⟨.ro, ers n g⟩) (some ⟨.ro, ers n g⟩) := fun g f => bfit_same (ers_rens ..)
  refine vcall_body Tryd.func21 nm21 code21 nt21 ?_
  unfold stL stE
  refine run_driveS 80 ?_
  simp only [go_sem, v21, v21_0]
  refine run_driveS 80 ?_
  simp only [go_sem, v21_1, stL_take, stL_take2, stL_take3, stL_take4, stE_take2, stE_take3, stE_take4]
  refine run_call' rfl ?_
  simp only [go_sem, calV]
  refine is_ _ _ hP (mod_lt _) ?_
  rw [decide_eq_true rfl]
  refine run_driveS 80 ?_
  simp only [go_sem, stL_take, stL_take2, stL_take3, stL_take4, stE_take2, stE_take3, stE_take4]
  refine run_call' rfl ?_
  simp only [go_sem, calV]
  refine is_ _ _ hQ' (mod_lt _) ?_
  rw [decide_eq_true rfl]
  refine run_driveS 80 ?_
  simp only [go_sem, stL_take, stL_take2, stL_take3, stL_take4, stE_take2, stE_take3, stE_take4]
  refine run_call' rfl ?_
  simp only [go_sem, calV]
  refine vcall_at (is_all n hn g hg c1 c3 (fun v k => v = .bool true ∧ k = [some ⟨.ro, scs n g⟩, some ⟨.ro, ers n fun j => g j % ell⟩]) ⟨rfl, rfl⟩) [0, 2] (by simp) ?_ ?_ ?_ ?_
  · exact hfit_cons rfl (hf1 _ _) (hfit_cons rfl (hf2 _ _) hfit_nil)
  · simp [uniq, wrB]
  · simp only [rens, ren, gmap]
  rintro v k ⟨rfl, rfl⟩
  rw [puts_ro (by simp [wrB]) rfl (by simp)]
  simp only [List.drop_succ_cons, List.drop_zero, List.length_cons, List.length_nil, List.map_nil, List.append_nil, Nat.reduceAdd, ren, rens, gmap]
  refine run_driveS 80 ?_
  simp only [go_sem, stL_take, stL_take2, stL_take3, stL_take4, stE_take2, stE_take3, stE_take4]
  refine run_call' rfl ?_
  simp only [go_sem, calV]
  refine vcall_at (is_all n hn h hh c2 c4 (fun v k => v = .bool true ∧ k = [some ⟨.ro, scs n h⟩, some ⟨.ro, ers n fun j => h j % ell⟩]) ⟨rfl, rfl⟩) [1, 3] (by simp) ?_ ?_ ?_ ?_
  · exact hfit_cons rfl (hf1 _ _) (hfit_cons rfl (hf2 _ _) hfit_nil)
  · simp [uniq, wrB]
  · simp only [rens, ren, gmap]
  rintro v k ⟨rfl, rfl⟩
  rw [puts_ro (by simp [wrB]) rfl (by simp)]
  simp only [List.drop_succ_cons, List.drop_zero, List.length_cons, List.length_nil, List.map_nil, List.append_nil, Nat.reduceAdd, ren, rens, gmap]
  refine run_driveS 80 ?_
  simp only [go_sem]
  refine run_ret_drop Tryd.func21 res21 [0, 1, 2, 3] (.bool true) _ rfl (by simp) ?_ ?_ ?_ hQ
  · exact hfit_cons rfl (hf1 _ _) (hfit_cons rfl (hf1 _ _) (hfit_cons rfl (hf2 _ _) (hfit_cons rfl (hf2 _ _) hfit_nil)))
  · simp [uniq, wrB]
  · simp only [go_sem, rr21, ren]
end Go.Vs.Tryd
