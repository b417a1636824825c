/- Text 8 of 10 of this claim: a machine of plain values beside the model, what the functions of the program and of the reference answer over it, and last the row and its card. -/
import Derived.Test.YtgikdhbldjkbbaaGreatDoorVK7
import Derived.Test.YtgikdhbldjkbbaaGreatDoorVK6
set_option linter.unusedVariables false
set_option linter.unusedSimpArgs false
namespace Go.Vs.Tryz
open Go.Proofs
variable {G : Nat → List V}
set_option linter.unusedSimpArgs false
attribute [local go_sem] lenO_nils lenO_sl sliceAtV Int.sub_zero List.length_append List.all_append ge_iff_le gt_iff_lt Int.natCast_nonneg Int.toNat_natCast Nat.mul_one b_and_ll b_shr_ll b_mul_ll b_add_ll b_or_ll b_shl_ll pick_ll pick_lc pick_bb driveS stopV Option.isSome_some Option.isSome_none Kind.m Kind.w Kind.g look_ro look_rw look_grow drive stepV exo expo evs fillV isNil nilKind eqV eqL optA optM sliceAtV ev kn ldc stc splice appV srcV lenV setd wantV exitV rvs rv one List.length_cons List.length_nil List.cons_append List.nil_append List.append_nil List.replicate List.getD_cons_zero List.getD_cons_succ List.set_cons_zero List.set_cons_succ List.getElem?_cons_zero List.getElem?_cons_succ List.getElem?_nil List.take_succ_cons List.take_zero List.take_nil List.drop_succ_cons List.drop_zero List.drop_nil List.all_cons List.all_nil List.any_cons List.any_nil Bool.and_true Bool.true_and Bool.and_self Option.map_some Option.map_none Option.bind_some Option.some.injEq Nat.add_zero Nat.zero_add Int.toNat_zero Int.toNat_one Int.zero_add Int.add_zero if_true if_false ite_true ite_false and_true true_and and_self ne_eq not_false_eq_true not_true_eq_false decide_true decide_false Bool.false_eq_true Bool.not_true Bool.not_false beq_self_eq_true BEq.rfl Bool.not_eq_true Nat.le_refl Int.le_refl Nat.zero_le List.foldl List.map_cons List.map_nil Prod.mk.injEq Int.cast_ofNat_Int Int.zero_le_ofNat b_add_cc b_add_cl b_add_lc b_mul_cc b_mul_cl b_mul_lc b_sub_cc b_sub_cl b_sub_lc b_and_cc b_and_cl b_and_lc b_or_cc b_or_cl b_or_lc b_xor_cc b_xor_cl b_xor_lc b_andNot_cc b_andNot_cl b_andNot_lc b_shr_cc b_shr_cl b_shr_lc b_shl_cc b_shl_cl b_shl_lc b_lss b_leq b_gtr b_geq b_add_i b_sub_i b_mul_i beq_cc beq_cl beq_lc beq_ll b_quo_i b_rem_i neg_u64 wrap_i64 driveD stepD idsAt idOf maskH_nil restore_nil restore_mask List.filterMap_nil List.filterMap_cons VOp.looks VOp.makes exA cells_agg cells_int cells_bool cells_str cells_nilp cells_ptr cells_glob cells_nils cells_sl cells_nilf cells_fn cells_nili cells_ifc known_agg known_tup known_int known_bool known_str known_nilp known_ptr known_glob known_nils known_sl known_nilf known_fn known_nili known_ifc known_unk one_agg one_tup one_int one_bool one_str one_nilp one_ptr one_glob one_nils one_sl one_nilf one_fn one_nili one_ifc asK_int asN_int asB_bool asS_str asG_agg asT_tup
attribute [local go_sem_proc] Nat.reduceAdd Nat.reduceSub Nat.reduceLeDiff Nat.reduceMul Nat.reduceLT Nat.reduceEqDiff Int.reduceLT Int.reduceLE Int.reduceAdd Int.reduceSub Int.reduceMul Int.reduceToNat reduceIte reduceCtorEq Nat.reduceBEq
attribute [local go_sem ↓] lc_len lc_take lc_drop lc_known lc_one lc_rens lc_cells lw_known lw_agg lw_asG scs_known scs_one scs_len
attribute [local go_sem] lt_nat lt_natl lt_lnat lt_ll bool_tf bool_ft
set_option maxRecDepth 100000
set_option maxHeartbeats 1000000
theorem run_for {P : Program} {f : FuncId} {n : Nat} {md : Md} {Q : V → Heap → Prop} {k : List TI} (S : Nat → St) (N : Nat) (step : ∀ i, i < N → RunM P G f n md Q (k, S (i + 1)) → RunM P G f n md Q (k, S i)) (last : RunM P G f n md Q (k, S N)) : RunM P G f n md Q (k, S 0) := by
  have : ∀ j i, i + j = N → RunM P G f n md Q (k, S i) := by
    intro j
    induction j with
    | zero =>
      intro i h
      obtain rfl : i = N := (by omega)
      exact last
    | succ j ih => intro i h; exact step i (by omega) (ih (i + 1) (by omega))
  exact this N 0 (by omega)
theorem line_times (hG : G 0 = tbl) (A K : Nat) (hA : A < 115792089237316195423570985008687907853269984665640564039457584007913129639936) (hK : K < 115792089237316195423570985008687907853269984665640564039457584007913129639936) {h : Heap} {R : V → Heap → Prop} (hQ : R (lw (A * K % ell)) h) : VCall Tryz.prog G 161 [lw A, lw K] h R := by
  refine vcall_plain (Q := fun v => v = lw (A * K % ell)) ?_ (fun g => by simp only [rens, lw_plain, ew_plain, ren]) (fun v g hv => by subst hv; exact lw_plain _ g) (fun v hv => by subst hv; exact hQ)
  refine vcall_body Tryz.func161 nm161 code161 nt161 ?_
  refine run_driveS 80 ?_
  simp only [go_sem, v161, v161_0, v161_1]
  refine run_call' rfl ?_
  simp only [go_sem, calV]
  refine mul' hG _ _ hA hK ?_
  refine run_driveS 80 ?_
  simp only [go_sem]
  refine run_ret_drop Tryz.func161 res161 [] (lw (A * K % ell)) [] rfl (by simp) trivial (by simp [uniq]) ?_ ⟨rfl, rfl⟩
  simp only [go_sem, rr161, lw_plain, ew_plain, ren]
theorem line_add (hG : G 0 = tbl) (A B : Nat) (hA : A < 115792089237316195423570985008687907853269984665640564039457584007913129639936) (hB : B < 115792089237316195423570985008687907853269984665640564039457584007913129639936) {h : Heap} {R : V → Heap → Prop} (hQ : R (lw ((A + B) % ell)) h) : VCall Tryz.prog G 158 [lw A, lw B] h R := by
  refine vcall_plain (Q := fun v => v = lw ((A + B) % ell)) ?_ (fun g => by simp only [rens, lw_plain, ew_plain, ren]) (fun v g hv => by subst hv; exact lw_plain _ g) (fun v hv => by subst hv; exact hQ)
  refine vcall_body Tryz.func158 nm158 code158 nt158 ?_
  refine run_driveS 80 ?_
  simp only [go_sem, v158, v158_0, v158_1]
  refine run_call' rfl ?_
  simp only [go_sem, calV]
  refine add_ hG _ _ hA hB ?_
  refine run_driveS 80 ?_
  simp only [go_sem]
  refine run_ret_drop Tryz.func158 res158 [] (lw ((A + B) % ell)) [] rfl (by simp) trivial (by simp [uniq]) ?_ ⟨rfl, rfl⟩
  simp only [go_sem, rr158, lw_plain, ew_plain, ren]
end Go.Vs.Tryz
namespace Go.Vs.Tryz
open Go.Proofs
variable {G : Nat → List V}
set_option linter.unusedSimpArgs false
attribute [local go_sem] lenO_nils lenO_sl sliceAtV Int.sub_zero List.length_append List.all_append ge_iff_le gt_iff_lt Int.natCast_nonneg Int.toNat_natCast Nat.mul_one b_and_ll b_shr_ll b_mul_ll b_add_ll b_or_ll b_shl_ll pick_ll pick_lc pick_bb driveS stopV Option.isSome_some Option.isSome_none Kind.m Kind.w Kind.g look_ro look_rw look_grow drive stepV exo expo evs fillV isNil nilKind eqV eqL optA optM sliceAtV ev kn ldc stc splice appV srcV lenV setd wantV exitV rvs rv one List.length_cons List.length_nil List.cons_append List.nil_append List.append_nil List.replicate List.getD_cons_zero List.getD_cons_succ List.set_cons_zero List.set_cons_succ List.getElem?_cons_zero List.getElem?_cons_succ List.getElem?_nil List.take_succ_cons List.take_zero List.take_nil List.drop_succ_cons List.drop_zero List.drop_nil List.all_cons List.all_nil List.any_cons List.any_nil Bool.and_true Bool.true_and Bool.and_self Option.map_some Option.map_none Option.bind_some Option.some.injEq Nat.add_zero Nat.zero_add Int.toNat_zero Int.toNat_one Int.zero_add Int.add_zero if_true if_false ite_true ite_false and_true true_and and_self ne_eq not_false_eq_true not_true_eq_false decide_true decide_false Bool.false_eq_true Bool.not_true Bool.not_false beq_self_eq_true BEq.rfl Bool.not_eq_true Nat.le_refl Int.le_refl Nat.zero_le List.foldl List.map_cons List.map_nil Prod.mk.injEq Int.cast_ofNat_Int Int.zero_le_ofNat b_add_cc b_add_cl b_add_lc b_mul_cc b_mul_cl b_mul_lc b_sub_cc b_sub_cl b_sub_lc b_and_cc b_and_cl b_and_lc b_or_cc b_or_cl b_or_lc b_xor_cc b_xor_cl b_xor_lc b_andNot_cc b_andNot_cl b_andNot_lc b_shr_cc b_shr_cl b_shr_lc b_shl_cc b_shl_cl b_shl_lc b_lss b_leq b_gtr b_geq b_add_i b_sub_i b_mul_i beq_cc beq_cl beq_lc beq_ll b_quo_i b_rem_i neg_u64 wrap_i64 driveD stepD idsAt idOf maskH_nil restore_nil restore_mask List.filterMap_nil List.filterMap_cons VOp.looks VOp.makes exA cells_agg cells_int cells_bool cells_str cells_nilp cells_ptr cells_glob cells_nils cells_sl cells_nilf cells_fn cells_nili cells_ifc known_agg known_tup known_int known_bool known_str known_nilp known_ptr known_glob known_nils known_sl known_nilf known_fn known_nili known_ifc known_unk one_agg one_tup one_int one_bool one_str one_nilp one_ptr one_glob one_nils one_sl one_nilf one_fn one_nili one_ifc asK_int asN_int asB_bool asS_str asG_agg asT_tup true_or or_true false_or or_false
attribute [local go_sem_proc] Nat.reduceAdd Nat.reduceSub Nat.reduceLeDiff Nat.reduceMul Nat.reduceLT Nat.reduceEqDiff Int.reduceLT Int.reduceLE Int.reduceAdd Int.reduceSub Int.reduceMul Int.reduceToNat reduceIte reduceCtorEq Nat.reduceBEq
attribute [local go_sem ↓] lc_len lc_take lc_drop lc_known lc_one lc_rens lc_cells lw_known lw_agg lw_asG scs_known scs_one scs_len
attribute [local go_sem] lt_nat lt_natl lt_lnat lt_ll bool_tf bool_ft
set_option maxRecDepth 100000
set_option maxHeartbeats 1000000
theorem m_times : methV Tryz.prog 29 "Times" = some 161 := by kernel_rfl
theorem m_add : methV Tryz.prog 29 "Add" = some 158 := by kernel_rfl
theorem halves_ (p m : Nat) (hm : 0 < m) (hm2 : m < 1000000) (c : Cap) (hc : c = .grow 4 ∨ ∃ k, c = .exact k ∧ 2 * m ≤ k) (f : Nat → Nat) {h : Heap} (hp : h[p]? = some (some ⟨.ro, scs (2 * m) f⟩)) {R : V → Heap → Prop}
    (hQ : R (.tup [.sl p 0 m (.exact m), .sl p (m * 4) m (.exact m)]) h) : VCall Tryz.prog G 70 [.sl p 0 (2 * m) c] h R := by
  have hd : Int.tdiv ((2 * m : Nat) : Int) 2 = (m : Int) := by
    rw [show (2 : Int) = ((2 : Nat) : Int) from rfl, ← Int.ofNat_tdiv]
    congr 1
    omega
  have hwm : IntKind.i64.wrap (m : Int) = (m : Int) := wrap_i64 (by omega) (by omega)
  have h0 : ((m : Int) ≤ ((2 * m : Nat) : Int)) = True := eq_true (by omega)
  have h1 : (m = 0) = False := eq_false (by omega)
  have h1' : ((m : Int) = 0) = False := eq_false (by omega)
  have h2 : (((2 * m : Nat) : Int) = (m : Int)) = False := eq_false (by omega)
  have h3 : (2 * m * 4 ≤ 2 * m * 4) = True := eq_true (by omega)
  have h4 : (((2 * m : Nat) : Int) - (m : Int)) = (m : Int) := by omega
  have h5 : ((m : Int) ≤ (m : Int)) = True := eq_true (by omega)
  have h6 : (((2 * m : Nat) : Int) ≤ ((2 * m : Nat) : Int)) = True := eq_true (by omega)
  refine vcall_body Tryz.func70 nm70 code70 nt70 ?_
  rcases hc with rfl | ⟨k, rfl, hk⟩
  · refine run_driveS 80 ?_
    simp only [go_sem, v70, v70_0, v70_1, hd, hwm]
    refine run_drw (by kernel_rfl) ?_
    refine drun_drive 40 (p := (_, _)) ?_
    simp only [go_sem, v70_2, hp, hd, hwm, h0, h1, h1', h2, h3, h4, h5, h6]
    refine drun_end ?_
    refine run_driveS 80 ?_
    simp only [go_sem]
    refine run_ret' Tryz.func70 res70 ?_
    simp only [go_sem, rr70]
    exact hQ
  · have h7 : ((m : Int) ≤ (k : Int)) = True := eq_true (by omega)
    have h8 : (((2 * m : Nat) : Int) ≤ (k : Int)) = True := eq_true (by omega)
    refine run_driveS 80 ?_
    simp only [go_sem, v70, v70_0, v70_1, hd, hwm]
    refine run_drw (by kernel_rfl) ?_
    refine drun_drive 40 (p := (_, _)) ?_
    simp only [go_sem, v70_2, hp, hd, hwm, h0, h1, h1', h2, h3, h4, h5, h6, h7, h8]
    refine drun_end ?_
    refine run_driveS 80 ?_
    simp only [go_sem]
    refine run_ret' Tryz.func70 res70 ?_
    simp only [go_sem, rr70]
    exact hQ
def fe (x y m : Nat) (f : Nat → Nat) : Nat → Nat := fun j => (f j * x % ell + f (m + j) * y % ell) % ell
theorem fe_lt (x y m : Nat) (f : Nat → Nat) (j : Nat) : fe x y m f j < ell := mod_lt' _
theorem scs_two_get (m : Nat) (f : Nat → Nat) {i : Nat} (h : i < m) : ((scs (2 * m) f).drop (m * 4 + i * 4)).take 4 = lc (f (m + i)) := by
  have := scs_get' (2 * m) f (i := m + i) (by omega)
  rw [Nat.add_mul] at this
  exact this
theorem fold_elements (hG : G 0 = tbl) (x y m : Nat) (hx : x < 115792089237316195423570985008687907853269984665640564039457584007913129639936) (hy : y < 115792089237316195423570985008687907853269984665640564039457584007913129639936) (hm : 0 < m) (hm2 : m < 1000000) (c : Cap) (hc : c = .grow 4 ∨ ∃ k, c = .exact k ∧ 2 * m ≤ k) (f : Nat → Nat) (hf : ∀ j, f j < 115792089237316195423570985008687907853269984665640564039457584007913129639936) (Q : V → Heap → Prop)
    (hQ : Q (.sl 1 0 m (.exact m)) [some ⟨.ro, scs (2 * m) f⟩, some ⟨.rw, scs m (fe x y m f)⟩]) : VCall Tryz.prog G 45 [lw x, .sl 0 0 (2 * m) c, lw y] [some ⟨.ro, scs (2 * m) f⟩] Q := by
  have hl := ell_lt
  have a1 : ((32 : Int) * (m : Int) ≤ 281474976710656) = True := eq_true (by omega)
  have a2 : ((m : Int) ≤ 9223372036854775807) = True := eq_true (by omega)
  refine vcall_body Tryz.func45 nm45 code45 nt45 ?_
  refine run_driveS 80 ?_
  simp only [go_sem, v45, v45_0, v45_1]
  refine run_call' rfl ?_
  simp only [go_sem, calV]
  refine halves_ 0 m hm hm2 c hc f rfl ?_
  refine run_driveS 80 ?_
  simp only [go_sem, v45_2, v45_3, v45_10, a1, a2, ↓scs_zero]
  refine run_rename [0, 1, 2, 3] (st' := ⟨[.unk, .unk, .unk, .ptr 1 0, .unk, .ptr 2 0, .nils, .sl 0 0 m (.exact m), .sl 0 (m * 4) m (.exact m), .sl 3 0 m (.exact m)] ++ List.replicate 10 .unk ++ [.sl 0 0 m (.exact m), .int .i64 m, .int .i64 (0 : Nat)] ++ List.replicate 22 .unk, [some ⟨.ro, scs (2 * m) f⟩, some ⟨.rw, lc x⟩, some ⟨.rw, lc y⟩, some ⟨.rw, scs m fun j => if j < 0 then fe x y m f j else 0⟩]⟩) rfl (by simp) ?_ ?_ ?_ (run_for (fun i => ⟨[.unk, .unk, .unk, .ptr 1 0, .unk, .ptr 2 0, .nils, .sl 0 0 m (.exact m), .sl 0 (m * 4) m (.exact m), .sl 3 0 m (.exact m)] ++ List.replicate 10 .unk ++ [.sl 0 0 m (.exact m), .int .i64 m, .int .i64 i] ++ List.replicate 22 .unk, [some ⟨.ro, scs (2 * m) f⟩, some ⟨.rw, lc x⟩, some ⟨.rw, lc y⟩, some ⟨.rw, scs m fun j => if j < i then fe x y m f j else 0⟩]⟩) m (fun i hi ih => ?_) ?_)
  · rw [show (scs m fun j => if j < 0 then fe x y m f j else 0) = scs m fun _ => 0 from scs_congr fun j _ => if_neg (by omega)]
    simp only [go_sem, hfit, lc_fit, scs_fit, fit, ren, gmap, lw_plain, true_or, or_true]
  · simp [uniq, wrB]
  · simp only [go_sem, hfit, lc_fit, scs_fit, fit, ren, gmap, lw_plain, true_or, or_true]
  · have h0 : ((i : Int) < (m : Int)) = True := eq_true (by omega)
    have hw : IntKind.i64.wrap ((i : Int) + 1) = ((i + 1 : Nat) : Int) := by rw [wrap_i64 (by omega) (by omega)]; omega
    have g1 := scs_get' (2 * m) f (i := i) (by omega)
    have g2 := scs_two_get m f hi
    have hin := scs_in m (fun j => if j < i then fe x y m f j else 0) (i := i) (by omega)
    have hset := scs_set m (fun j => if j < i then fe x y m f j else 0) (fun j => if j < i + 1 then fe x y m f j else 0) (i := i) (v := fe x y m f i) (by omega) (by simp) (fun j _ hj => by by_cases h1 : j < i <;> simp [h1] <;> omega)
    have b1 : (i * 4 + 4 ≤ m * 4) = True := eq_true (by omega)
    refine run_loop_eq v45_9.eq_1 ?_
    refine run_driveS 80 ?_
    simp only [go_sem, v45_4, v45_7, v45_5, h0, g1]
    refine run_drw (by kernel_rfl) ?_
    refine drun_drive 40 (p := (_, _)) ?_
    simp only [go_sem, v45_6, h0, g1, g2]
    refine drun_call' ?_
    simp only [go_sem, calV, m_times]
    refine line_times hG _ _ (hf i) hx ?_
    refine drun_drive 40 (p := (_, _)) ?_
    simp only [go_sem, g2]
    refine drun_call' ?_
    simp only [go_sem, calV, m_times]
    refine line_times hG _ _ (hf (m + i)) hy ?_
    refine drun_drive 40 (p := (_, _)) ?_
    simp only [go_sem]
    refine drun_call' ?_
    simp only [go_sem, calV, m_add]
    refine line_add hG _ _ (mod_lt _) (mod_lt _) ?_
    rw [show (f i * x % ell + f (m + i) * y % ell) % ell = fe x y m f i from rfl]
    refine drun_drive 40 (p := (_, _)) ?_
    simp only [go_sem, h0, b1, hin, hset]
    refine drun_end ?_
    refine run_driveS 80 ?_
    simp only [go_sem, v45_8, hw]
    refine run_rename [0, 1, 2, 3] rfl (by simp) ?_ ?_ ?_ (ih)
    · simp only [go_sem, hfit, lc_fit, scs_fit, fit, ren, gmap, lw_plain, true_or, or_true]
    · simp [uniq, wrB]
    · simp only [go_sem, hfit, lc_fit, scs_fit, fit, ren, gmap, lw_plain, true_or, or_true]
  · have h0 : ((m : Int) < (m : Int)) = False := eq_false (by omega)
    refine run_loop_eq v45_9.eq_1 ?_
    refine run_driveS 80 ?_
    simp only [go_sem, v45_4, h0]
    refine run_exit rfl ?_
    refine run_driveS 80 ?_
    simp only [go_sem, v45_11]
    rw [show (scs m fun j => if j < m then fe x y m f j else 0) = scs m (fe x y m f) from scs_congr fun j hj => if_pos hj]
    refine run_ret_drop Tryz.func45 res45 [0, 3] (.sl 1 0 m (.exact m)) _ rfl (by simp) ?_ ?_ ?_ (hQ)
    · simp only [go_sem, hfit, lc_fit, scs_fit, fit, ren, gmap, lw_plain, true_or, or_true]
    · simp [uniq, wrB]
    · simp only [go_sem, rr45, ren, rens, gmap]
end Go.Vs.Tryz
namespace Go.Vs.Tryz
open Go.Proofs
variable {G : Nat → List V}
set_option linter.unusedSimpArgs false
attribute [local go_sem] lenO_nils lenO_sl sliceAtV Int.sub_zero List.length_append List.all_append ge_iff_le gt_iff_lt Int.natCast_nonneg Int.toNat_natCast Nat.mul_one b_and_ll b_shr_ll b_mul_ll b_add_ll b_or_ll b_shl_ll pick_ll pick_lc pick_bb driveS stopV Option.isSome_some Option.isSome_none Kind.m Kind.w Kind.g look_ro look_rw look_grow drive stepV exo expo evs fillV isNil nilKind eqV eqL optA optM sliceAtV ev kn ldc stc splice appV srcV lenV setd wantV exitV rvs rv one List.length_cons List.length_nil List.cons_append List.nil_append List.append_nil List.replicate List.getD_cons_zero List.getD_cons_succ List.set_cons_zero List.set_cons_succ List.getElem?_cons_zero List.getElem?_cons_succ List.getElem?_nil List.take_succ_cons List.take_zero List.take_nil List.drop_succ_cons List.drop_zero List.drop_nil List.all_cons List.all_nil List.any_cons List.any_nil Bool.and_true Bool.true_and Bool.and_self Option.map_some Option.map_none Option.bind_some Option.some.injEq Nat.add_zero Nat.zero_add Int.toNat_zero Int.toNat_one Int.zero_add Int.add_zero if_true if_false ite_true ite_false and_true true_and and_self ne_eq not_false_eq_true not_true_eq_false decide_true decide_false Bool.false_eq_true Bool.not_true Bool.not_false beq_self_eq_true BEq.rfl Bool.not_eq_true Nat.le_refl Int.le_refl Nat.zero_le List.foldl List.map_cons List.map_nil Prod.mk.injEq Int.cast_ofNat_Int Int.zero_le_ofNat b_add_cc b_add_cl b_add_lc b_mul_cc b_mul_cl b_mul_lc b_sub_cc b_sub_cl b_sub_lc b_and_cc b_and_cl b_and_lc b_or_cc b_or_cl b_or_lc b_xor_cc b_xor_cl b_xor_lc b_andNot_cc b_andNot_cl b_andNot_lc b_shr_cc b_shr_cl b_shr_lc b_shl_cc b_shl_cl b_shl_lc b_lss b_leq b_gtr b_geq b_add_i b_sub_i b_mul_i beq_cc beq_cl beq_lc beq_ll b_quo_i b_rem_i neg_u64 wrap_i64 driveD stepD idsAt idOf maskH_nil restore_nil restore_mask List.filterMap_nil List.filterMap_cons VOp.looks VOp.makes exA cells_agg cells_int cells_bool cells_str cells_nilp cells_ptr cells_glob cells_nils cells_sl cells_nilf cells_fn cells_nili cells_ifc known_agg known_tup known_int known_bool known_str known_nilp known_ptr known_glob known_nils known_sl known_nilf known_fn known_nili known_ifc known_unk one_agg one_tup one_int one_bool one_str one_nilp one_ptr one_glob one_nils one_sl one_nilf one_fn one_nili one_ifc asK_int asN_int asB_bool asS_str asG_agg asT_tup
attribute [local go_sem_proc] Nat.reduceAdd Nat.reduceSub Nat.reduceLeDiff Nat.reduceMul Nat.reduceLT Nat.reduceEqDiff Int.reduceLT Int.reduceLE Int.reduceAdd Int.reduceSub Int.reduceMul Int.reduceToNat reduceIte reduceCtorEq Nat.reduceBEq
section
attribute [local go_sem ↓] lc_len lc_take lc_drop lc_known lc_one lc_rens lc_cells lw_known lw_agg lw_asG scs_known scs_one scs_len
attribute [local go_sem] lt_nat lt_natl lt_lnat lt_ll bool_tf bool_ft
attribute [local go_sem ↓] ecs_len ecs_take ecs_drop ecs_known ecs_one ecs_rens ecs_fit ecs_cells ew_known ew_agg ew_asG ecs_kind ecs_k ecs_l ers_known ers_one ers_len ers_rens ers_fit
attribute [local go_sem ↓] ecs_take_add ecs_drop_add lc_take_add lc_drop_add lenO_de lenO_dv de_known dv_known de_one dv_one de_ren dv_ren
set_option maxRecDepth 100000
set_option maxHeartbeats 1000000
def blv (n i : Nat) : List V := [.unk, .sl 0 0 n (.grow 26), .unk, .sl 0 (n * 26) n (.grow 26), .ptr 1 0, .unk, .ptr 2 0, .unk, .unk, de 3 i, .int .i64 i] ++ List.replicate 23 .unk
theorem ers_get2 (n : Nat) (f : Nat → Nat) {i : Nat} (h : i < n) : ((ers (2 * n) f).drop (n * 26 + i * 26)).take 26 = ecs (f (n + i)) := by
  rw [← Nat.add_mul]
  exact ers_get (2 * n) f (by omega)
theorem blend_loop (g r : Nat → Nat) (hg : ∀ j, g j < 115792089237316195423570985008687907853269984665640564039457584007913129639936) (x y n : Nat) (hx : x < 115792089237316195423570985008687907853269984665640564039457584007913129639936) (hy : y < 115792089237316195423570985008687907853269984665640564039457584007913129639936) (hn : n < 1000000) (hr : ∀ j, j < n → r j = (g j * x % ell + g (n + j) * y % ell) % ell) {Q : V → Heap → Prop} {K : List TI}
    (hK : Run Tryz.prog G 77 1 Q (K, ⟨blv n n, [some ⟨.ro, ers (2 * n) g⟩, some ⟨.rw, lc x⟩, some ⟨.rw, lc y⟩, ebg r n]⟩)) : ∀ k i, i + k = n → Run Tryz.prog G 77 1 Q (.l v77_7 :: .b 0 :: K, ⟨blv n i, [some ⟨.ro, ers (2 * n) g⟩, some ⟨.rw, lc x⟩, some ⟨.rw, lc y⟩, ebg r i]⟩)
  | 0, i, h => by
    obtain rfl : i = n := by omega
    have h0 : ((i : Int) < (i : Int)) = False := eq_false (by omega)
    unfold blv
    by_cases hi : i = 0
    · subst hi
      rw [show de 3 0 = .nils from rfl, show ebg r 0 = none from rfl]
      refine run_loop_eq v77_7.eq_1 ?_
      refine run_driveS 80 ?_
      simp only [go_sem, v77_3]
      refine run_exit rfl ?_
      refine run_rename [0, 1, 2, 3] rfl (by simp) ?_ ?_ ?_ hK
      · rw [show ebg r 0 = none from rfl]
        simp only [go_sem, hfit, lc_fit, scs_fit, fit, ren, gmap, lw_plain, true_or, or_true]
      · simp [uniq, ebg, wrB]
      · unfold blv
        rw [show de 3 0 = .nils from rfl]
        simp only [go_sem, hfit, lc_fit, scs_fit, fit, ren, gmap, lw_plain, true_or, or_true]
    · rw [de_pos (by omega), ebg_pos (by omega)]
      refine run_loop_eq v77_7.eq_1 ?_
      refine run_driveS 80 ?_
      simp only [go_sem, v77_3, h0]
      refine run_exit rfl ?_
      refine run_rename [0, 1, 2, 3] rfl (by simp) ?_ ?_ ?_ hK
      · rw [ebg_pos (by omega)]
        simp only [go_sem, hfit, lc_fit, scs_fit, fit, ren, gmap, lw_plain, true_or, or_true]
      · simp [uniq, ebg_pos (show 0 < i by omega), wrB]
      · unfold blv
        rw [de_pos (by omega)]
        simp only [go_sem, hfit, lc_fit, scs_fit, fit, ren, gmap, lw_plain, true_or, or_true]
  | k + 1, i, h => by
    have ih := blend_loop g r hg x y n hx hy hn hr hK k (i + 1) (by omega)
    have h0 : ((i : Int) < (n : Int)) = True := eq_true (by omega)
    have hg1 := ers_get (2 * n) g (i := i) (by omega)
    have hg2 := ers_get2 n g (i := i) (by omega)
    have hw : IntKind.i64.wrap ((i : Int) + 1) = ((i + 1 : Nat) : Int) := by rw [wrap_i64 (by omega) (by omega)]; omega
    have hri := hr i (by omega)
    unfold blv
    by_cases hi : i = 0
    · subst hi
      have h0' : ((0 : Int) < (n : Int)) = True := eq_true (by omega)
      rw [Nat.zero_mul, List.drop_zero] at hg1
      rw [Nat.zero_mul, Nat.add_zero, Nat.add_zero] at hg2
      rw [Nat.add_zero] at hri
      rw [show de 3 0 = .nils from rfl, show ebg r 0 = none from rfl]
      refine run_loop_eq v77_7.eq_1 ?_
      refine run_driveS 80 ?_
      simp only [go_sem, v77_3, v77_5, h0']
      refine run_drw (by kernel_rfl) ?_
      refine drun_drive 40 (p := (_, _)) ?_
      simp only [go_sem, v77_4, h0', hg1, hg2]
      refine drun_call' ?_
      simp only [go_sem, calV]
      refine e_times _ _ (hg 0) hx ?_
      refine drun_drive 40 (p := (_, _)) ?_
      simp only [go_sem]
      refine drun_call' ?_
      simp only [go_sem, calV]
      refine e_times _ _ (hg n) hy ?_
      refine drun_drive 40 (p := (_, _)) ?_
      simp only [go_sem]
      refine drun_call' ?_
      simp only [go_sem, calV]
      refine e_add _ _ (mod_lt' _) (mod_lt' _) ?_
      rw [← hri]
      refine drun_drive 40 (p := (_, _)) ?_
      simp only [go_sem]
      refine drun_end ?_
      refine run_driveS 80 ?_
      simp only [go_sem, v77_6]
      refine run_rename [0, 1, 2, 5] rfl (by simp) ?_ ?_ ?_ ih
      · rw [ebg_pos (by omega), show ers (0 + 1) r = ecs (r 0) from rfl]
        simp only [go_sem, hfit, lc_fit, scs_fit, fit, ren, gmap, lw_plain, true_or, or_true]
      · simp [uniq, ebg, wrB]
      · unfold blv
        rw [de_pos (by omega)]
        simp only [go_sem, hfit, lc_fit, scs_fit, fit, ren, gmap, lw_plain, true_or, or_true]
    · have hi : 0 < i := by omega
      rw [de_pos hi, ebg_pos hi]
      have a1 : ((i + 1) * 224 ≤ 140737488355328) = True := eq_true (by omega)
      have a2 : (i + 1 ≤ 9223372036854775807) = True := eq_true (by omega)
      have a3 := ers_snoc i r (v := r i) rfl
      refine run_loop_eq v77_7.eq_1 ?_
      refine run_driveS 80 ?_
      simp only [go_sem, v77_3, v77_5, h0]
      refine run_drw (by kernel_rfl) ?_
      refine drun_drive 40 (p := (_, _)) ?_
      simp only [go_sem, v77_4, h0, hg1, hg2]
      refine drun_call' ?_
      simp only [go_sem, calV]
      refine e_times _ _ (hg i) hx ?_
      refine drun_drive 40 (p := (_, _)) ?_
      simp only [go_sem]
      refine drun_call' ?_
      simp only [go_sem, calV]
      refine e_times _ _ (hg (n + i)) hy ?_
      refine drun_drive 40 (p := (_, _)) ?_
      simp only [go_sem]
      refine drun_call' ?_
      simp only [go_sem, calV]
      refine e_add _ _ (mod_lt' _) (mod_lt' _) ?_
      rw [← hri]
      refine drun_drive 40 (p := (_, _)) ?_
      simp only [go_sem, a1, a2, a3]
      refine drun_end ?_
      refine run_driveS 80 ?_
      simp only [go_sem, v77_6, hw]
      refine run_rename [0, 1, 2, 5] rfl (by simp) ?_ ?_ ?_ ih
      · rw [ebg_pos (by omega)]
        simp only [go_sem, hfit, lc_fit, scs_fit, fit, ren, gmap, lw_plain, true_or, or_true]
      · simp [uniq, ebg, wrB]
      · unfold blv
        rw [de_pos (by omega)]
        simp only [go_sem, hfit, lc_fit, scs_fit, fit, ren, gmap, lw_plain, true_or, or_true]
theorem blend (g r : Nat → Nat) (hg : ∀ j, g j < 115792089237316195423570985008687907853269984665640564039457584007913129639936) (x y n : Nat) (hx : x < 115792089237316195423570985008687907853269984665640564039457584007913129639936) (hy : y < 115792089237316195423570985008687907853269984665640564039457584007913129639936) (hn : n < 1000000) (hn0 : 0 < n) (hr : ∀ j, j < n → r j = (g j * x % ell + g (n + j) * y % ell) % ell) (Q : V → Heap → Prop)
    (hQ : Q (.sl 1 0 n (.grow 26)) [some ⟨.ro, ers (2 * n) g⟩, some ⟨.grow, ers n r⟩]) : VCall Tryz.prog G 77 [lw x, .sl 0 0 n (.grow 26), lw y, .sl 0 (n * 26) n (.grow 26)] [some ⟨.ro, ers (2 * n) g⟩] Q := by
  refine vcall_body Tryz.func77 nm77 code77 nt77 ?_
  refine run_driveS 80 ?_
  simp only [go_sem, v77, v77_0, v77_1, v77_2, v77_8]
  refine run_rename [0, 1, 2, 3] rfl (by simp) ?_ ?_ ?_ (blend_loop g r hg x y n hx hy hn hr (K := [.c (.seq (.reg v77_9) .ret)]) ?_ n 0 (by omega))
  · rw [show ebg r 0 = none from rfl]
    simp only [go_sem, hfit, lc_fit, scs_fit, fit, ren, gmap, lw_plain, true_or, or_true]
  · simp [uniq, ebg, wrB]
  · unfold blv
    rw [show de 3 0 = .nils from rfl]
    simp only [go_sem, hfit, lc_fit, scs_fit, fit, ren, gmap, lw_plain, true_or, or_true]
  · unfold blv
    rw [de_pos hn0, ebg_pos hn0]
    refine run_driveS 80 ?_
    simp only [go_sem, v77_9]
    refine run_ret_drop Tryz.func77 res77 [0, 3] (.sl 1 0 n (.grow 26)) _ rfl (by simp) ?_ ?_ ?_ hQ
    · simp only [go_sem, hfit, lc_fit, scs_fit, fit, ren, gmap, lw_plain, true_or, or_true]
    · simp [uniq, wrB]
    · simp only [go_sem, rr77, ren, gmap]
end
section
attribute [local go_sem ↓] lc_len lc_take lc_drop lc_known lc_one lc_rens lc_cells lw_known lw_agg lw_asG scs_known scs_one scs_len
attribute [local go_sem] lt_nat lt_natl lt_lnat lt_ll bool_tf bool_ft
attribute [local go_sem ↓] ecs_len ecs_take ecs_drop ecs_known ecs_one ecs_rens ecs_fit ecs_cells ew_known ew_agg ew_asG ecs_kind ecs_k ecs_l ers_known ers_one ers_len ers_rens ers_fit
attribute [local go_sem ↓] ecs_take_add ecs_drop_add lc_take_add lc_drop_add lenO_de lenO_dv de_known dv_known de_one dv_one de_ren dv_ren
set_option maxRecDepth 100000
set_option maxHeartbeats 1000000
theorem fold_ref (g h : Nat → Nat) (hg : ∀ j, g j < 115792089237316195423570985008687907853269984665640564039457584007913129639936) (hh : ∀ j, h j < 115792089237316195423570985008687907853269984665640564039457584007913129639936) (P Q' L R u n : Nat) (hP : P < ell) (hL : L < 115792089237316195423570985008687907853269984665640564039457584007913129639936) (hR : R < 115792089237316195423570985008687907853269984665640564039457584007913129639936) (hu : u < ell) (hn : n < 1000000) (hn0 : 0 < n) (g' h' : Nat → Nat)
    (hg' : ∀ j, j < n → g' j = (g j * linv u % ell + g (n + j) * u % ell) % ell) (hh' : ∀ j, j < n → h' j = (h j * u % ell + h (n + j) * linv u % ell) % ell) (Q : V → Heap → Prop)
    (hQ : Q (stE (((L * (u * u % ell) % ell + P) % ell + R * (linv u * linv u % ell) % ell) % ell) Q' (.sl 2 0 n (.grow 26)) (.sl 3 0 n (.grow 26))) [some ⟨.ro, ers (2 * n) g⟩, some ⟨.ro, ers (2 * n) h⟩, some ⟨.grow, ers n g'⟩, some ⟨.grow, ers n h'⟩]) :
    VCall Tryz.prog G 48 [stE P Q' (.sl 0 0 (2 * n) (.grow 26)) (.sl 1 0 (2 * n) (.grow 26)), ew L, ew R, lw u] [some ⟨.ro, ers (2 * n) g⟩, some ⟨.ro, ers (2 * n) h⟩] Q := by
  have hl := ell_lt
  have hv := linv_lt u
  have hq : binI .quo .i64 ((2 * n : Nat) : Int) .i64 2 = some (.int .i64 (n : Int)) := by
    rw [b_quo_i _ _ (by decide), show ((2 * n : Nat) : Int).tdiv 2 = ((2 * n / 2 : Nat) : Int) from (Int.ofNat_tdiv (2 * n) 2).symm, wrap_i64 (by omega) (by omega)]
    congr 2
    omega
  have hle : ((n : Int) ≤ ((2 * n : Nat) : Int)) = True := eq_true (by omega)
  have hsub : (((2 * n : Nat) : Int) - (n : Int)).toNat = n := by omega
  have hlt : ((n : Int) < ((2 * n : Nat) : Int)) = True := eq_true (by omega)
  refine vcall_body Tryz.func48 nm48 code48 nt48 ?_
  unfold stE
  refine run_driveS 80 ?_
  simp only [go_sem, v48, v48_0, v48_1]
  refine run_call' rfl ?_
  simp only [go_sem, calV]
  refine ref_invert u hu ?_
  refine run_driveS 80 ?_
  simp only [go_sem, v48_2, hq]
  refine run_drw (by kernel_rfl) ?_
  refine drun_drive 40 (p := (_, _)) ?_
  simp only [go_sem, v48_3, hle, hlt, true_or, or_true]
  refine drun_call' ?_
  simp only [go_sem, calV]
  refine ref_mul _ _ (by omega) (by omega) ?_
  refine drun_drive 40 (p := (_, _)) ?_
  simp only [go_sem]
  refine drun_call' ?_
  simp only [go_sem, calV]
  refine e_times _ _ hL (mod_lt _) ?_
  refine drun_drive 40 (p := (_, _)) ?_
  simp only [go_sem]
  refine drun_call' ?_
  simp only [go_sem, calV]
  refine e_add _ _ (mod_lt' _) hP ?_
  refine drun_drive 40 (p := (_, _)) ?_
  simp only [go_sem]
  refine drun_call' ?_
  simp only [go_sem, calV]
  refine ref_mul _ _ (by omega) (by omega) ?_
  refine drun_drive 40 (p := (_, _)) ?_
  simp only [go_sem]
  refine drun_call' ?_
  simp only [go_sem, calV]
  refine e_times _ _ hR (mod_lt _) ?_
  refine drun_drive 40 (p := (_, _)) ?_
  simp only [go_sem]
  refine drun_call' ?_
  simp only [go_sem, calV]
  refine e_add _ _ (mod_lt' _) (mod_lt' _) ?_
  refine drun_drive 40 (p := (_, _)) ?_
  simp only [go_sem]
  refine drun_call' ?_
  simp only [go_sem, calV, hsub, maskH, List.mapIdx_cons, List.mapIdx_nil, List.contains_cons, List.contains_nil, Bool.or_false, Bool.or_true, Bool.false_or, Bool.true_or]
  refine vcall_at (blend g g' hg (linv u) u n (by omega) (by omega) hn hn0 hg' (fun v h => v = .sl 1 0 n (.grow 26) ∧ h = [some ⟨.ro, ers (2 * n) g⟩, some ⟨.grow, ers n g'⟩]) ⟨rfl, rfl⟩) [0] (by simp) ?_ ?_ ?_ ?_
  · simp only [go_sem, hfit, lc_fit, scs_fit, fit, ren, gmap, lw_plain, true_or, or_true]
  · simp [uniq, wrB]
  · simp only [go_sem, ren, rens, gmap, lw_plain]
  rintro v h'' ⟨rfl, rfl⟩
  simp only [go_sem, ren, rens, gmap, puts, wrB, Bool.false_eq_true, if_false, if_true, renB, ers_rens, Option.map_some, Option.map_none, restore, List.mapIdx_cons, List.mapIdx_nil, List.contains_cons, List.contains_nil, Bool.or_false, Bool.or_true, Bool.false_or, Bool.true_or, Option.join_some]
  refine drun_call' ?_
  simp only [go_sem, calV, maskH, List.mapIdx_cons, List.mapIdx_nil, List.contains_cons, List.contains_nil, Bool.or_false, Bool.or_true, Bool.false_or, Bool.true_or]
  refine vcall_at (blend h h' hh u (linv u) n (by omega) (by omega) hn hn0 hh' (fun v k => v = .sl 1 0 n (.grow 26) ∧ k = [some ⟨.ro, ers (2 * n) h⟩, some ⟨.grow, ers n h'⟩]) ⟨rfl, rfl⟩) [1] (by simp) ?_ ?_ ?_ ?_
  · simp only [go_sem, hfit, lc_fit, scs_fit, fit, ren, gmap, lw_plain, true_or, or_true]
  · simp [uniq, wrB]
  · simp only [go_sem, ren, rens, gmap, lw_plain]
  rintro v h'' ⟨rfl, rfl⟩
  simp only [go_sem, ren, rens, gmap, puts, wrB, Bool.false_eq_true, if_false, if_true, renB, ers_rens, Option.map_some, Option.map_none, restore, List.mapIdx_cons, List.mapIdx_nil, List.contains_cons, List.contains_nil, Bool.or_false, Bool.or_true, Bool.false_or, Bool.true_or, Option.join_some]
  refine drun_drive 40 (p := (_, _)) ?_
  simp only [go_sem, List.append_assoc]
  refine drun_end ?_
  refine run_driveS 80 ?_
  simp only [go_sem]
  refine run_ret_drop Tryz.func48 res48 [0, 1, 8, 9] _ _ rfl (by simp) ?_ ?_ ?_ hQ
  · simp only [go_sem, hfit, lc_fit, scs_fit, fit, ren, gmap, lw_plain, true_or, or_true]
  · simp [uniq, wrB]
  · simp only [go_sem, rr48, stE_ren, ren, gmap]
    rfl
end
end Go.Vs.Tryz
namespace Go.Vs.Tryz
def sm (t : Nat → Nat) : Nat → Nat
  | 0 => 0
  | n + 1 => (sm t n + t n) % ell
theorem sm_lt (t : Nat → Nat) : ∀ n, sm t n < ell
  | 0 => ell_pos
  | n + 1 => mod_lt' _
theorem sm_congr {t t' : Nat → Nat} : ∀ {n}, (∀ j, j < n → t j % ell = t' j % ell) → sm t n = sm t' n
  | 0, _ => rfl
  | n + 1, h => by rw [sm, sm, sm_congr (n := n) fun j hj => h j (by omega), Nat.add_mod, h n (Nat.lt_succ_self n), ← Nat.add_mod]
theorem add_l (a b : Nat) : (a % ell + b) % ell = (a + b) % ell := Nat.mod_add_mod a ell b
theorem add_r (a b : Nat) : (a + b % ell) % ell = (a + b) % ell := Nat.add_mod_mod a b ell
theorem sm_split (t : Nat → Nat) (m : Nat) : ∀ n, sm t (m + n) = (sm t m + sm (fun j => t (m + j)) n) % ell
  | 0 => by rw [Nat.add_zero, sm, Nat.add_zero, Nat.mod_eq_of_lt (sm_lt t m)]
  | n + 1 => by rw [← Nat.add_assoc, sm, sm_split t m n, sm, add_l, add_r, Nat.add_assoc]
theorem sm_add (a b : Nat → Nat) : ∀ n, (sm a n + sm b n) % ell = sm (fun j => a j + b j) n
  | 0 => rfl
  | n + 1 => by
    rw [sm, sm, sm, ← sm_add a b n, add_l, add_r, add_l]
    congr 1
    omega
def fo (a b : Nat → Nat) (n k : Nat) (g : Nat → Nat) : Nat → Nat := fun j => (g j * a (n - 1 - k) + g (j + 2 ^ k) * b (n - 1 - k)) % ell
def gl (a b : Nat → Nat) (n : Nat) : Nat → (Nat → Nat) → Nat → Nat
  | 0, g => g
  | k + 1, g => gl a b n k (fo a b n k g)
def wt (a b : Nat → Nat) (n : Nat) : Nat → Nat → Nat
  | 0, _ => 1
  | k + 1, j => if j < 2 ^ k then wt a b n k j * a (n - 1 - k) % ell else wt a b n k (j - 2 ^ k) * b (n - 1 - k) % ell
theorem gl_sum (a b : Nat → Nat) (n : Nat) : ∀ k g, gl a b n k g 0 % ell = sm (fun j => wt a b n k j * g j) (2 ^ k)
  | 0, g => by
    show g 0 % ell = sm _ (0 + 1)
    rw [sm, sm, wt, Nat.one_mul, Nat.zero_add]
  | k + 1, g => by
    show gl a b n k (fo a b n k g) 0 % ell = _
    rw [gl_sum a b n k, show 2 ^ (k + 1) = 2 ^ k + 2 ^ k by rw [Nat.pow_succ]; omega, sm_split, sm_add]
    refine sm_congr fun j hj => ?_
    rw [wt, if_pos hj, wt, if_neg (by omega), Nat.add_sub_cancel_left]
    unfold fo
    rw [mmod', Nat.mul_add, Nat.add_comm (2 ^ k) j, ← add_l, ← add_r]
    conv => rhs; rw [← add_l, ← add_r, mmod, mmod]
    congr 2
    · congr 1
      rw [Nat.mul_right_comm, Nat.mul_assoc]
    · congr 1
      rw [Nat.mul_right_comm, Nat.mul_assoc]
theorem linv_mod' (a : Nat) : linv (a % ell) = linv a := by rw [linv_eq, linv_eq, ← Nat.pow_mod]
end Go.Vs.Tryz
namespace Go.Vs.Tryz
open Go.Proofs
variable {G : Nat → List V}
set_option linter.unusedSimpArgs false
attribute [local go_sem] lenO_nils lenO_sl sliceAtV Int.sub_zero List.length_append List.all_append ge_iff_le gt_iff_lt Int.natCast_nonneg Int.toNat_natCast Nat.mul_one b_and_ll b_shr_ll b_mul_ll b_add_ll b_or_ll b_shl_ll pick_ll pick_lc pick_bb driveS stopV Option.isSome_some Option.isSome_none Kind.m Kind.w Kind.g look_ro look_rw look_grow drive stepV exo expo evs fillV isNil nilKind eqV eqL optA optM sliceAtV ev kn ldc stc splice appV srcV lenV setd wantV exitV rvs rv one List.length_cons List.length_nil List.cons_append List.nil_append List.append_nil List.replicate List.getD_cons_zero List.getD_cons_succ List.set_cons_zero List.set_cons_succ List.getElem?_cons_zero List.getElem?_cons_succ List.getElem?_nil List.take_succ_cons List.take_zero List.take_nil List.drop_succ_cons List.drop_zero List.drop_nil List.all_cons List.all_nil List.any_cons List.any_nil Bool.and_true Bool.true_and Bool.and_self Option.map_some Option.map_none Option.bind_some Option.some.injEq Nat.add_zero Nat.zero_add Int.toNat_zero Int.toNat_one Int.zero_add Int.add_zero if_true if_false ite_true ite_false and_true true_and and_self ne_eq not_false_eq_true not_true_eq_false decide_true decide_false Bool.false_eq_true Bool.not_true Bool.not_false beq_self_eq_true BEq.rfl Bool.not_eq_true Nat.le_refl Int.le_refl Nat.zero_le List.foldl List.map_cons List.map_nil Prod.mk.injEq Int.cast_ofNat_Int Int.zero_le_ofNat b_add_cc b_add_cl b_add_lc b_mul_cc b_mul_cl b_mul_lc b_sub_cc b_sub_cl b_sub_lc b_and_cc b_and_cl b_and_lc b_or_cc b_or_cl b_or_lc b_xor_cc b_xor_cl b_xor_lc b_andNot_cc b_andNot_cl b_andNot_lc b_shr_cc b_shr_cl b_shr_lc b_shl_cc b_shl_cl b_shl_lc b_lss b_leq b_gtr b_geq b_add_i b_sub_i b_mul_i beq_cc beq_cl beq_lc beq_ll b_quo_i b_rem_i neg_u64 wrap_i64 driveD stepD idsAt idOf maskH_nil restore_nil restore_mask List.filterMap_nil List.filterMap_cons VOp.looks VOp.makes exA cells_agg cells_int cells_bool cells_str cells_nilp cells_ptr cells_glob cells_nils cells_sl cells_nilf cells_fn cells_nili cells_ifc known_agg known_tup known_int known_bool known_str known_nilp known_ptr known_glob known_nils known_sl known_nilf known_fn known_nili known_ifc known_unk one_agg one_tup one_int one_bool one_str one_nilp one_ptr one_glob one_nils one_sl one_nilf one_fn one_nili one_ifc asK_int asN_int asB_bool asS_str asG_agg asT_tup
attribute [local go_sem_proc] Nat.reduceAdd Nat.reduceSub Nat.reduceLeDiff Nat.reduceMul Nat.reduceLT Nat.reduceEqDiff Int.reduceLT Int.reduceLE Int.reduceAdd Int.reduceSub Int.reduceMul Int.reduceToNat reduceIte reduceCtorEq Nat.reduceBEq
section
attribute [local go_sem ↓] lc_len lc_take lc_drop lc_known lc_one lc_rens lc_cells lw_known lw_agg lw_asG scs_known scs_one scs_len
attribute [local go_sem] lt_nat lt_natl lt_lnat lt_ll bool_tf bool_ft
attribute [local go_sem ↓] ecs_len ecs_take ecs_drop ecs_known ecs_one ecs_rens ecs_fit ecs_cells ew_known ew_agg ew_asG ecs_kind ecs_k ecs_l ers_known ers_one ers_len ers_rens ers_fit
attribute [local go_sem ↓] ecs_take_add ecs_drop_add lc_take_add lc_drop_add lenO_de lenO_dv de_known dv_known de_one dv_one de_ren dv_ren
set_option maxRecDepth 100000
set_option maxHeartbeats 1000000
theorem fit_append (g : Nat → Nat) : ∀ {a a' b b' : List V}, fit g a a' → fit g b b' → fit g (a ++ b) (a' ++ b')
  | [], [], _, _, _, h => h
  | _ :: _, _ :: _, _, _, h, k => ⟨h.1, fit_append g h.2 k⟩
  | [], _ :: _, _, _, h, _ => h.elim
  | _ :: _, [], _, _, h, _ => h.elim
theorem fit_unk (g : Nat → Nat) : ∀ (l : List V) {n : Nat}, l.length = n → fit g (List.replicate n .unk) l
  | [], n, h => by simp at h; subst h; exact trivial
  | v :: l, n, h => by
    obtain ⟨m, rfl⟩ : ∃ m, n = m + 1 := ⟨n - 1, by simp at h; omega⟩
    exact ⟨.inl rfl, fit_unk g l (by simpa using h)⟩
theorem fit_unk_app (g : Nat → Nat) {m l l' : List V} {n : Nat} (h : m.length = n) (k : fit g l l') : fit g (List.replicate n .unk ++ l) (m ++ l') := fit_append g (fit_unk g m h) k
theorem drop_unk (n k : Nat) (h : n = k) (l : List V) : (List.replicate n V.unk ++ l).drop k = l := by subst h; simp
noncomputable def pl (Lf Rf us : Nat → Nat) (N : Nat) : Nat → Nat → Nat
  | 0, P => P
  | m + 1, P => pl Lf Rf us N m (((Lf (N - 1 - m) * (us (N - 1 - m) * us (N - 1 - m) % ell) % ell + P) % ell + Rf (N - 1 - m) * (linv (us (N - 1 - m)) * linv (us (N - 1 - m)) % ell) % ell) % ell)
def rv5 (N m i : Nat) (c : Cap) : List V := [.unk, .unk, dv 0 N, .ptr 5 0, .ptr 6 0, .unk, .unk, .sl 7 0 (i + 1) c, .int .i64 i] ++ List.replicate 34 .unk
def st54 (P Q' m : Nat) : List V := ecs P ++ (ecs Q' ++ [.sl 8 0 (2 ^ m) (.grow 26), .sl 9 0 (2 ^ m) (.grow 26)])
def rh5 (us Lf Rf g0 h0 : Nat → Nat) (N P Q' a b m i : Nat) (gi hi : Nat → Nat) (k : Kind) : Heap :=
  [rob us N, some ⟨.ro, ers (2 ^ N) g0⟩, some ⟨.ro, ers (2 ^ N) h0⟩, eb Lf N, eb Rf N, some ⟨.rw, st54 P Q' m⟩, some ⟨.rw, de 3 N :: de 4 N :: (lc a ++ lc b)⟩, some ⟨k, List.replicate (54 * i) .unk ++ st54 P Q' m⟩, some ⟨.ro, ers (2 ^ m) gi⟩, some ⟨.ro, ers (2 ^ m) hi⟩]
theorem fo_eq (us g : Nat → Nat) (N m j : Nat) : fo (fun t => linv (us t)) us N m g j = (g j * linv (us (N - 1 - m)) % ell + g (2 ^ m + j) * us (N - 1 - m) % ell) % ell := by
  unfold fo
  rw [add_l, add_r, Nat.add_comm j]
theorem fo_eq' (us g : Nat → Nat) (N m j : Nat) : fo us (fun t => linv (us t)) N m g j = (g j * us (N - 1 - m) % ell + g (2 ^ m + j) * linv (us (N - 1 - m)) % ell) % ell := by
  unfold fo
  rw [add_l, add_r, Nat.add_comm j]
theorem fit_ecs_app (g : Nat → Nat) (a : Nat) (l l' : List V) : fit g (ecs a ++ l) (ecs a ++ l') = fit g l l' := propext ⟨fun h => by
  have : ∀ (m : List V), fit g (m ++ l) (m ++ l') → fit g l l' := by
    intro m
    induction m with
    | nil => intro h; exact h
    | cons v m ih => intro h; exact ih h.2
  exact this _ h, fun h => fit_append g (ecs_fit g a) h⟩
theorem fit_lc_app (g : Nat → Nat) (a : Nat) (l l' : List V) : fit g (lc a ++ l) (lc a ++ l') = fit g l l' := propext ⟨fun h => by
  have : ∀ (m : List V), fit g (m ++ l) (m ++ l') → fit g l l' := by
    intro m
    induction m with
    | nil => intro h; exact h
    | cons v m ih => intro h; exact ih h.2
  exact this _ h, fun h => fit_append g (lc_fit g a) h⟩
theorem rounds_ref_loop (us Lf Rf g0 h0 : Nat → Nat) (N Q' a b : Nat) (hN : N ≤ 10) (hus : ∀ j, us j < ell) (hL : ∀ j, Lf j < 115792089237316195423570985008687907853269984665640564039457584007913129639936) (hR : ∀ j, Rf j < 115792089237316195423570985008687907853269984665640564039457584007913129639936) (Gf Hf : Nat → Nat) (Pf : Nat) {Q : V → Heap → Prop}
    (hQ : ∀ c, Q (.sl 5 0 (N + 1) c) [rob us N, some ⟨.ro, ers (2 ^ N) g0⟩, some ⟨.ro, ers (2 ^ N) h0⟩, eb Lf N, eb Rf N, some ⟨.ro, List.replicate (54 * N) .unk ++ (ecs Pf ++ (ecs Q' ++ [.sl 6 0 1 (.grow 26), .sl 7 0 1 (.grow 26)]))⟩, some ⟨.ro, ers 1 Gf⟩, some ⟨.ro, ers 1 Hf⟩]) :
    ∀ m i gi hi P k c, i + m = N → (∀ j, gi j < 115792089237316195423570985008687907853269984665640564039457584007913129639936) → (∀ j, hi j < 115792089237316195423570985008687907853269984665640564039457584007913129639936) → P < ell → gl (fun t => linv (us t)) us N m gi = Gf → gl us (fun t => linv (us t)) N m hi = Hf → pl Lf Rf us N m P = Pf → 0 < i → k = .grow ∧ c = .grow 54 →
    Run Tryz.prog G 34 5 Q ([.l v34_10, .b 0, .c (.seq (.reg v34_12) .ret)], ⟨rv5 N m i c, rh5 us Lf Rf g0 h0 N P Q' a b m i gi hi k⟩)
  | 0, i, gi, hi, P, k, c, h, hgi, hhi, hP, eG, eH, eP, hi1, hk => by
    obtain rfl : i = N := by omega
    have h0' : ((i : Int) < (i : Int)) = False := eq_false (by omega)
    have eG : gi = Gf := eG
    have eH : hi = Hf := eH
    have eP : P = Pf := eP
    subst eG eH eP
    have hkm : k.m = true := by rw [hk.1]; rfl
    unfold rv5 rh5 st54
    rw [Nat.pow_zero]
    refine run_loop_eq v34_10.eq_1 ?_
    refine run_driveS 80 ?_
    simp only [go_sem, v34_5, h0']
    refine run_exit rfl ?_
    refine run_driveS 80 ?_
    simp only [go_sem, v34_12]
    refine run_ret_drop Tryz.func34 res34 [0, 1, 2, 3, 4, 7, 8, 9] (.sl 5 0 (i + 1) c) _ rfl (by simp) ?_ ?_ ?_ (hQ c)
    · by_cases hi0 : i = 0
      · omega
      · rw [rob_pos (by omega), eb_pos (by omega), eb_pos (by omega)]
        obtain ⟨rfl, rfl⟩ := hk
        simp only [go_sem, hfit, lc_fit, scs_fit, fit, ren, gmap, lw_plain, true_or, or_true]
        exact fit_unk_app _ (by simp) (by simp only [fit_ecs_app, fit, ren, gmap, or_true, and_self])
    · by_cases hi0 : i = 0
      · subst hi0
        simp [uniq, rob, eb, wrB]
      · rw [rob_pos (by omega), eb_pos (by omega), eb_pos (by omega)]
        simp [uniq, wrB]
    · simp only [go_sem, rr34, ren, gmap]
  | m + 1, i, gi, hi, P, k, c, h, hgi, hhi, hP, eG, eH, eP, hi1, hk => by
    have h2 : 2 ^ (m + 1) = 2 * 2 ^ m := by rw [Nat.pow_succ, Nat.mul_comm]
    have hp : 2 ^ m ≤ 2 ^ 10 := Nat.pow_le_pow_right (by decide) (by omega)
    have hp0 : 0 < 2 ^ m := Nat.two_pow_pos m
    have hi' : N - 1 - m = i := by omega
    have fg : ∀ j, fo (fun t => linv (us t)) us N m gi j = (gi j * linv (us i) % ell + gi (2 ^ m + j) * us i % ell) % ell := fun j => by rw [fo_eq, hi']
    have fh : ∀ j, fo us (fun t => linv (us t)) N m hi j = (hi j * us i % ell + hi (2 ^ m + j) * linv (us i) % ell) % ell := fun j => by rw [fo_eq', hi']
    have lt1 : ∀ j, fo (fun t => linv (us t)) us N m gi j < 115792089237316195423570985008687907853269984665640564039457584007913129639936 := fun j => mod_lt _
    have lt2 : ∀ j, fo us (fun t => linv (us t)) N m hi j < 115792089237316195423570985008687907853269984665640564039457584007913129639936 := fun j => mod_lt _
    have ih := fun k c => rounds_ref_loop us Lf Rf g0 h0 N Q' a b hN hus hL hR Gf Hf Pf hQ m (i + 1) (fo (fun t => linv (us t)) us N m gi) (fo us (fun t => linv (us t)) N m hi) (((Lf i * (us i * us i % ell) % ell + P) % ell + Rf i * (linv (us i) * linv (us i) % ell) % ell) % ell) k c (by omega) lt1 lt2 (mod_lt' _) eG eH (by rw [pl, hi'] at eP; exact eP) (by omega)
    have hfold := fun Q => fold_ref (G := G) gi hi hgi hhi P Q' (Lf i) (Rf i) (us i) (2 ^ m) hP (hL i) (hR i) (hus i) (by omega) hp0 (fo (fun t => linv (us t)) us N m gi) (fo us (fun t => linv (us t)) N m hi) (fun j _ => fg j) (fun j _ => fh j) Q
    generalize fo (fun t => linv (us t)) us N m gi = gn at *
    generalize fo us (fun t => linv (us t)) N m hi = hn at *
    generalize ((Lf i * (us i * us i % ell) % ell + P) % ell + Rf i * (linv (us i) * linv (us i) % ell) % ell) % ell = Pn at *
    have h0' : ((i : Int) < (N : Int)) = True := eq_true (by omega)
    have gU := scs_get' N us (i := i) (by omega)
    have gL := ers_get N Lf (i := i) (by omega)
    have gR := ers_get N Rf (i := i) (by omega)
    have hw : IntKind.i64.wrap ((i : Int) + 1) = ((i + 1 : Nat) : Int) := by rw [wrap_i64 (by omega) (by omega)]; omega
    unfold rv5 rh5 st54 at ih ⊢
    rw [rob_pos (by omega), eb_pos (by omega), eb_pos (by omega), de_pos (by omega), de_pos (by omega), dv_pos (by omega)] at *
    rw [h2]
    generalize 2 ^ m = n at *
    refine run_loop_eq v34_10.eq_1 ?_
    refine run_driveS 80 ?_
    simp only [go_sem, v34_5, v34_8, h0']
    refine run_drw (by kernel_rfl) ?_
    refine drun_drive 40 (p := (_, _)) ?_
    simp only [go_sem, v34_6, h0', gU, gL, gR]
    refine drun_call' ?_
    simp only [go_sem, calV]
    refine vcall_at (hfold (fun v k => v = stE Pn Q' (.sl 2 0 n (.grow 26)) (.sl 3 0 n (.grow 26)) ∧ k = [some ⟨.ro, ers (2 * n) gi⟩, some ⟨.ro, ers (2 * n) hi⟩, some ⟨.grow, ers n gn⟩, some ⟨.grow, ers n hn⟩]) ⟨rfl, rfl⟩) [8, 9] (by simp) ?_ ?_ ?_ ?_
    · simp only [go_sem, hfit, lc_fit, scs_fit, fit, ren, gmap, lw_plain, true_or, or_true]
    · simp [uniq, wrB]
    · simp only [stE, ren, rens, rens_append, ecs_rens, gmap, ew_plain, lw_plain]
    rintro v h'' ⟨rfl, rfl⟩
    simp only [go_sem, stE, rens_append, ren, rens, gmap, puts, wrB, Bool.false_eq_true, if_false, if_true, renB, ers_rens, Option.map_some, Option.map_none]
    refine drun_drive 40 (p := (_, _)) ?_
    simp only [go_sem, List.append_assoc]
    refine drun_end ?_
    have a1 : ((i + 1 + 1) * 496 ≤ 140737488355328) = True := eq_true (by omega)
    have a2 : (i + 1 + 1 ≤ 9223372036854775807) = True := eq_true (by omega)
    obtain ⟨rfl, rfl⟩ := hk
    have a3 : (54 * i + 54 = (i + 1) * 54) = True := eq_true (by omega)
    refine run_driveS 80 ?_
    simp only [go_sem, v34_7, v34_9, a1, a2, a3, List.length_replicate, hw]
    refine run_rename [0, 1, 2, 3, 4, 5, 6, 13, 10, 11] rfl (by simp) ?_ ?_ ?_ (ih .grow (.grow 54) ⟨rfl, rfl⟩)
    · simp only [go_sem, hfit, lc_fit, scs_fit, fit, ren, gmap, lw_plain, true_or, or_true, fit_ecs_app, fit_lc_app]
      refine fit_unk_app _ ?_ (by simp only [fit_ecs_app, fit, ren, gmap, or_true, and_self])
      rw [List.length_append, List.length_replicate]
      show 54 * i + 54 = 54 * (i + 1)
      omega
    · simp [uniq, wrB]
    · simp only [go_sem, hfit, lc_fit, scs_fit, fit, ren, gmap, lw_plain, true_or, or_true]
theorem wrB_none : wrB none = false := rfl
theorem wrB_rob (f : Nat → Nat) (n : Nat) : wrB (rob f n) = false := by unfold rob; split <;> rfl
theorem wrB_eb (f : Nat → Nat) (n : Nat) : wrB (eb f n) = false := by unfold eb; split <;> rfl
theorem rounds_ref (us Lf Rf g0 h0 : Nat → Nat) (N P Q' a b : Nat) (hN : N ≤ 10) (hus : ∀ j, us j < ell) (hz : ∀ j, j < N → us j ≠ 0) (hL : ∀ j, Lf j < 115792089237316195423570985008687907853269984665640564039457584007913129639936) (hR : ∀ j, Rf j < 115792089237316195423570985008687907853269984665640564039457584007913129639936) (hg : ∀ j, g0 j < 115792089237316195423570985008687907853269984665640564039457584007913129639936) (hh : ∀ j, h0 j < 115792089237316195423570985008687907853269984665640564039457584007913129639936) (hP : P < ell) (Q : V → Heap → Prop)
    (hQ0 : N = 0 → ∀ c, Q (.sl 5 0 1 c) [none, some ⟨.ro, ers 1 g0⟩, some ⟨.ro, ers 1 h0⟩, none, none, some ⟨.ro, ecs P ++ (ecs Q' ++ [.sl 1 0 1 (.grow 26), .sl 2 0 1 (.grow 26)])⟩])
    (hQ : 0 < N → ∀ c, Q (.sl 5 0 (N + 1) c) [rob us N, some ⟨.ro, ers (2 ^ N) g0⟩, some ⟨.ro, ers (2 ^ N) h0⟩, eb Lf N, eb Rf N, some ⟨.ro, List.replicate (54 * N) .unk ++ (ecs (pl Lf Rf us N N P) ++ (ecs Q' ++ [.sl 6 0 1 (.grow 26), .sl 7 0 1 (.grow 26)]))⟩, some ⟨.ro, ers 1 (gl (fun t => linv (us t)) us N N g0)⟩, some ⟨.ro, ers 1 (gl us (fun t => linv (us t)) N N h0)⟩]) :
    VCall Tryz.prog G 34 [stE P Q' (.sl 1 0 (2 ^ N) (.grow 26)) (.sl 2 0 (2 ^ N) (.grow 26)), arE (de 3 N) (de 4 N) a b, dv 0 N] [rob us N, some ⟨.ro, ers (2 ^ N) g0⟩, some ⟨.ro, ers (2 ^ N) h0⟩, eb Lf N, eb Rf N] Q := by
  have hp0 : 0 < 2 ^ N := Nat.two_pow_pos N
  have hl := ell_lt
  have hfits := fun Q => fits_ref (G := G) P Q' a b (2 ^ N) (2 ^ N) N N N us (fun j => Nat.lt_trans (hus j) hl) Q
  rw [de_pos hp0, de_pos hp0] at hfits
  have fit0 : Fit (2 ^ N) (2 ^ N) N N N N := ⟨rfl, hN, rfl, rfl, rfl, rfl⟩
  have hf0 : VCall Tryz.prog G 21 [stE P Q' (.sl 1 0 (2 ^ N) (.grow 26)) (.sl 2 0 (2 ^ N) (.grow 26)), arE (de 3 N) (de 4 N) a b, dv 0 N] [rob us N, none, none, none, none] fun v k => v = .int .i64 0 ∧ k = [rob us N, none, none, none, none] :=
    hfits _ (fun h => absurd fit0 (h N)) (fun k f ⟨j, hj, e⟩ => by
      have : k = N := f.2.2.2.1.symm
      subst this
      exact absurd e (hz j hj)) (fun k f h => ⟨rfl, rfl⟩)
  by_cases hN0 : N = 0
  · subst hN0
    rw [show rob us 0 = none from rfl, show eb Lf 0 = none from rfl, show eb Rf 0 = none from rfl, Nat.pow_zero, show dv 0 0 = .nils from rfl, show de 3 0 = .nils from rfl, show de 4 0 = .nils from rfl] at *
    refine vcall_body Tryz.func34 nm34 code34 nt34 ?_
    unfold stE arE
    refine run_driveS 80 ?_
    simp only [go_sem, v34, v34_0, v34_1]
    refine run_call' rfl ?_
    simp only [go_sem, calV]
    refine vcall_at hf0 [0, 1, 2, 3, 4] (by simp) ?_ ?_ ?_ ?_
    · simp only [go_sem, hfit, lc_fit, scs_fit, fit, ren, gmap, lw_plain, true_or, or_true]
    · simp [uniq, wrB]
    · simp only [stE_ren, arE_ren, ren, rens, gmap]
      rfl
    rintro v h'' ⟨rfl, rfl⟩
    simp only [go_sem, puts, wrB_none, ren, rens, gmap, Bool.false_eq_true, if_false]
    refine run_driveS 80 ?_
    simp only [go_sem]
    refine run_cond_f (by rfl) ?_
    refine run_driveS 80 ?_
    simp only [go_sem, v34_3, v34_4, v34_11]
    refine run_loop_eq v34_10.eq_1 ?_
    refine run_driveS 80 ?_
    simp only [go_sem, v34_5]
    refine run_exit rfl ?_
    refine run_driveS 80 ?_
    simp only [go_sem, v34_12]
    refine run_ret_drop Tryz.func34 res34 [0, 1, 2, 3, 4, 7] (.sl 5 0 1 (.exact 1)) _ rfl (by simp) ?_ ?_ ?_ (hQ0 rfl _)
    · simp only [go_sem, hfit, lc_fit, scs_fit, fit, ren, gmap, lw_plain, true_or, or_true, fit_ecs_app]
    · simp [uniq, wrB]
    · simp only [go_sem, rr34, ren, gmap]
  · obtain ⟨M, rfl⟩ : ∃ M, N = M + 1 := ⟨N - 1, by omega⟩
    have h2 : 2 ^ (M + 1) = 2 * 2 ^ M := by rw [Nat.pow_succ, Nat.mul_comm]
    have hp : 2 ^ M ≤ 2 ^ 10 := Nat.pow_le_pow_right (by decide) (by omega)
    have hpM : 0 < 2 ^ M := Nat.two_pow_pos M
    have hi' : M + 1 - 1 - M = 0 := by omega
    have fg : ∀ j, fo (fun t => linv (us t)) us (M + 1) M g0 j = (g0 j * linv (us 0) % ell + g0 (2 ^ M + j) * us 0 % ell) % ell := fun j => by rw [fo_eq, hi']
    have fh : ∀ j, fo us (fun t => linv (us t)) (M + 1) M h0 j = (h0 j * us 0 % ell + h0 (2 ^ M + j) * linv (us 0) % ell) % ell := fun j => by rw [fo_eq', hi']
    have lt1 : ∀ j, fo (fun t => linv (us t)) us (M + 1) M g0 j < 115792089237316195423570985008687907853269984665640564039457584007913129639936 := fun j => mod_lt _
    have lt2 : ∀ j, fo us (fun t => linv (us t)) (M + 1) M h0 j < 115792089237316195423570985008687907853269984665640564039457584007913129639936 := fun j => mod_lt _
    have ih := fun k c => rounds_ref_loop (G := G) us Lf Rf g0 h0 (M + 1) Q' a b hN hus hL hR _ _ _ (hQ (by omega)) M 1 (fo (fun t => linv (us t)) us (M + 1) M g0) (fo us (fun t => linv (us t)) (M + 1) M h0) (((Lf 0 * (us 0 * us 0 % ell) % ell + P) % ell + Rf 0 * (linv (us 0) * linv (us 0) % ell) % ell) % ell) k c (by omega) lt1 lt2 (mod_lt' _) rfl rfl (by rw [pl, hi']) (by decide)
    have hfold := fun Q => fold_ref (G := G) g0 h0 hg hh P Q' (Lf 0) (Rf 0) (us 0) (2 ^ M) hP (hL 0) (hR 0) (hus 0) (by omega) hpM (fo (fun t => linv (us t)) us (M + 1) M g0) (fo us (fun t => linv (us t)) (M + 1) M h0) (fun j _ => fg j) (fun j _ => fh j) Q
    generalize fo (fun t => linv (us t)) us (M + 1) M g0 = gn at *
    generalize fo us (fun t => linv (us t)) (M + 1) M h0 = hn at *
    generalize ((Lf 0 * (us 0 * us 0 % ell) % ell + P) % ell + Rf 0 * (linv (us 0) * linv (us 0) % ell) % ell) % ell = Pn at *
    have h0' : ((0 : Int) < ((M + 1 : Nat) : Int)) = True := eq_true (by omega)
    have gU := scs_get' (M + 1) us (i := 0) (by omega)
    have gL := ers_get (M + 1) Lf (i := 0) (by omega)
    have gR := ers_get (M + 1) Rf (i := 0) (by omega)
    rw [Nat.zero_mul, List.drop_zero] at gU gL gR
    unfold rv5 rh5 st54 at ih
    have hM : 0 < M + 1 := by omega
    clear hQ hQ0 hfits fit0
    rw [rob_pos hM, eb_pos hM, eb_pos hM, de_pos hM, de_pos hM, dv_pos hM] at ih ⊢
    rw [rob_pos hM, de_pos hM, de_pos hM, dv_pos hM] at hf0
    rw [h2] at ih hf0 ⊢
    generalize 2 ^ M = n at *
    generalize M + 1 = N at *
    obtain ⟨q, hq⟩ : ∃ q, q = 54 * 1 := ⟨_, rfl⟩
    rw [← hq] at ih
    have ih := ih .grow (.grow 54) ⟨rfl, rfl⟩
    refine vcall_body Tryz.func34 nm34 code34 nt34 ?_
    unfold stE arE
    refine run_driveS 80 ?_
    simp only [go_sem, v34, v34_0, v34_1]
    refine run_call' rfl ?_
    simp only [go_sem, calV]
    refine vcall_at hf0 [0, 1, 2, 3, 4] (by simp) ?_ ?_ ?_ ?_
    · simp only [go_sem, hfit, lc_fit, scs_fit, fit, ren, gmap, lw_plain, true_or, or_true]
    · simp [uniq, wrB]
    · simp only [stE_ren, arE_ren, ren, rens, gmap]
      rfl
    rintro v h'' ⟨rfl, rfl⟩
    simp only [go_sem, puts, wrB, ren, rens, gmap, Bool.false_eq_true, if_false]
    refine run_driveS 80 ?_
    simp only [go_sem]
    refine run_cond_f (by rfl) ?_
    refine run_driveS 80 ?_
    simp only [go_sem, v34_3, v34_4, v34_11]
    refine run_loop_eq v34_10.eq_1 ?_
    refine run_driveS 80 ?_
    simp only [go_sem, v34_5, v34_8, h0']
    refine run_drw (by kernel_rfl) ?_
    refine drun_drive 40 (p := (_, _)) ?_
    simp only [go_sem, v34_6, h0', gU, gL, gR]
    refine drun_call' ?_
    simp only [go_sem, calV]
    refine vcall_at (hfold (fun v k => v = stE Pn Q' (.sl 2 0 n (.grow 26)) (.sl 3 0 n (.grow 26)) ∧ k = [some ⟨.ro, ers (2 * n) g0⟩, some ⟨.ro, ers (2 * n) h0⟩, some ⟨.grow, ers n gn⟩, some ⟨.grow, ers n hn⟩]) ⟨rfl, rfl⟩) [1, 2] (by simp) ?_ ?_ ?_ ?_
    · simp only [go_sem, hfit, lc_fit, scs_fit, fit, ren, gmap, lw_plain, true_or, or_true]
    · simp [uniq, wrB]
    · simp only [stE, ren, rens, rens_append, ecs_rens, gmap, ew_plain, lw_plain]
    rintro v h'' ⟨rfl, rfl⟩
    simp only [go_sem, stE, rens_append, ren, rens, gmap, puts, wrB, Bool.false_eq_true, if_false, if_true, renB, ers_rens, Option.map_some, Option.map_none]
    refine drun_drive 40 (p := (_, _)) ?_
    simp only [go_sem, List.append_assoc]
    refine drun_end ?_
    refine run_driveS 80 ?_
    simp only [go_sem, v34_7, v34_9]
    refine run_rename [0, 1, 2, 3, 4, 5, 6, 11, 8, 9] rfl (by simp) ?_ ?_ ?_ ih
    · simp only [go_sem, hfit, lc_fit, scs_fit, fit, ren, gmap, lw_plain, true_or, or_true, fit_ecs_app, fit_lc_app]
      refine fit_unk_app (n := q) _ (m := ecs P ++ (ecs Q' ++ [.sl 1 0 (2 * n) (.grow 26), .sl 2 0 (2 * n) (.grow 26)])) ?_ ?_
      · rw [hq]; rfl
      · simp only [fit_ecs_app, fit, ren, gmap, or_true, and_self]
    · simp [uniq, wrB]
    · simp only [go_sem, hfit, lc_fit, scs_fit, fit, ren, gmap, lw_plain, true_or, or_true]
end
section
attribute [local go_sem ↓] lc_len lc_take lc_drop lc_known lc_one lc_rens lc_cells lw_known lw_agg lw_asG scs_known scs_one scs_len
attribute [local go_sem] lt_nat lt_natl lt_lnat lt_ll bool_tf bool_ft
attribute [local go_sem ↓] ecs_len ecs_take ecs_drop ecs_known ecs_one ecs_rens ecs_fit ecs_cells ew_known ew_agg ew_asG ecs_kind ecs_k ecs_l ers_known ers_one ers_len ers_rens ers_fit
attribute [local go_sem ↓] ecs_take_add ecs_drop_add lc_take_add lc_drop_add lenO_de lenO_dv de_known dv_known de_one dv_one de_ren dv_ren
set_option maxRecDepth 100000
set_option maxHeartbeats 1000000
noncomputable def lf (us Lf Rf g0 h0 : Nat → Nat) (N P Q' a b : Nat) : Nat :=
  (pl Lf Rf us N N P + ((gl (fun t => linv (us t)) us N N g0 0 * a % ell + gl us (fun t => linv (us t)) N N h0 0 * b % ell) % ell + Q' * (a * b % ell) % ell) % ell * (ell - 1)) % ell
theorem pl_lt (Lf Rf us : Nat → Nat) (N : Nat) : ∀ m P, P < ell → pl Lf Rf us N m P < ell
  | 0, _, h => h
  | m + 1, _, _ => pl_lt Lf Rf us N m _ (mod_lt' _)
theorem gl_lt (x y : Nat → Nat) (n : Nat) : ∀ k g, (∀ j, g j < 115792089237316195423570985008687907853269984665640564039457584007913129639936) → ∀ j, gl x y n k g j < 115792089237316195423570985008687907853269984665640564039457584007913129639936
  | 0, _, h => h
  | k + 1, _, _ => gl_lt x y n k _ fun _ => mod_lt _
theorem left_ref (us Lf Rf g0 h0 : Nat → Nat) (N P Q' a b : Nat) (hN : N ≤ 10) (hus : ∀ j, us j < ell) (hz : ∀ j, j < N → us j ≠ 0) (hL : ∀ j, Lf j < 115792089237316195423570985008687907853269984665640564039457584007913129639936) (hR : ∀ j, Rf j < 115792089237316195423570985008687907853269984665640564039457584007913129639936) (hg : ∀ j, g0 j < 115792089237316195423570985008687907853269984665640564039457584007913129639936) (hh : ∀ j, h0 j < 115792089237316195423570985008687907853269984665640564039457584007913129639936) (hP : P < ell) (hQ' : Q' < 115792089237316195423570985008687907853269984665640564039457584007913129639936) (ha : a < 115792089237316195423570985008687907853269984665640564039457584007913129639936) (hb : b < 115792089237316195423570985008687907853269984665640564039457584007913129639936) (Q : V → Heap → Prop)
    (hQ : Q (ew (lf us Lf Rf g0 h0 N P Q' a b)) [rob us N, some ⟨.ro, ers (2 ^ N) g0⟩, some ⟨.ro, ers (2 ^ N) h0⟩, eb Lf N, eb Rf N]) :
    VCall Tryz.prog G 22 [stE P Q' (.sl 1 0 (2 ^ N) (.grow 26)) (.sl 2 0 (2 ^ N) (.grow 26)), arE (de 3 N) (de 4 N) a b, dv 0 N] [rob us N, some ⟨.ro, ers (2 ^ N) g0⟩, some ⟨.ro, ers (2 ^ N) h0⟩, eb Lf N, eb Rf N] Q := by
  have hPf := pl_lt Lf Rf us N N P hP
  have hGf := gl_lt (fun t => linv (us t)) us N N g0 hg
  have hHf := gl_lt us (fun t => linv (us t)) N N h0 hh
  have hr := fun Q => rounds_ref (G := G) us Lf Rf g0 h0 N P Q' a b hN hus hz hL hR hg hh hP Q
  unfold lf at hQ
  by_cases hN0 : N = 0
  · subst hN0
    rw [show rob us 0 = none from rfl, show eb Lf 0 = none from rfl, show eb Rf 0 = none from rfl, Nat.pow_zero, show dv 0 0 = .nils from rfl, show de 3 0 = .nils from rfl, show de 4 0 = .nils from rfl] at *
    have hr1 : VCall Tryz.prog G 34 [stE P Q' (.sl 1 0 1 (.grow 26)) (.sl 2 0 1 (.grow 26)), arE .nils .nils a b, .nils] [none, some ⟨.ro, ers 1 g0⟩, some ⟨.ro, ers 1 h0⟩, none, none] fun v k => ∃ c, v = .sl 5 0 1 c ∧ k = [none, some ⟨.ro, ers 1 g0⟩, some ⟨.ro, ers 1 h0⟩, none, none, some ⟨.ro, ecs P ++ (ecs Q' ++ [.sl 1 0 1 (.grow 26), .sl 2 0 1 (.grow 26)])⟩] :=
      hr _ (fun _ c => ⟨c, rfl, rfl⟩) (fun h => absurd h (by decide))
    have e1 : gl (fun t => linv (us t)) us 0 0 g0 0 = g0 0 := rfl
    have e2 : gl us (fun t => linv (us t)) 0 0 h0 0 = h0 0 := rfl
    have e3 : pl Lf Rf us 0 0 P = P := rfl
    rw [e1, e2, e3] at hQ
    have g1 := ers_get 1 g0 (i := 0) (by omega)
    have g2 := ers_get 1 h0 (i := 0) (by omega)
    rw [Nat.zero_mul, List.drop_zero] at g1 g2
    refine vcall_body Tryz.func22 nm22 code22 nt22 ?_
    unfold stE arE
    refine run_driveS 80 ?_
    simp only [go_sem, v22, v22_0, v22_1]
    refine run_call' rfl ?_
    simp only [go_sem, calV]
    refine vcall_at hr1 [0, 1, 2, 3, 4] (by simp) ?_ ?_ ?_ ?_
    · simp only [go_sem, hfit, lc_fit, scs_fit, fit, ren, gmap, lw_plain, true_or, or_true]
    · simp [uniq, wrB]
    · simp only [stE_ren, arE_ren, ren, rens, gmap]
      rfl
    rintro v h'' ⟨c, rfl, rfl⟩
    simp only [go_sem, puts, wrB, ren, rens, rens_append, ecs_rens, gmap, Bool.false_eq_true, if_false, renB, Option.map_some, Option.map_none]
    refine run_driveS 80 ?_
    simp only [go_sem, v22_2]
    refine run_drw (by kernel_rfl) ?_
    refine drun_drive 40 (p := (_, _)) ?_
    simp only [go_sem, v22_3, g1, g2]
    refine drun_call' ?_
    simp only [go_sem, calV]
    refine e_times _ _ (hg 0) ha ?_
    refine drun_drive 40 (p := (_, _)) ?_
    simp only [go_sem]
    refine drun_call' ?_
    simp only [go_sem, calV]
    refine e_times _ _ (hh 0) hb ?_
    refine drun_drive 40 (p := (_, _)) ?_
    simp only [go_sem]
    refine drun_call' ?_
    simp only [go_sem, calV]
    refine e_add _ _ (mod_lt' _) (mod_lt' _) ?_
    refine drun_drive 40 (p := (_, _)) ?_
    simp only [go_sem]
    refine drun_call' ?_
    simp only [go_sem, calV]
    refine ref_mul _ _ ha hb ?_
    refine drun_drive 40 (p := (_, _)) ?_
    simp only [go_sem]
    refine drun_call' ?_
    simp only [go_sem, calV]
    refine e_times _ _ hQ' (mod_lt _) ?_
    refine drun_drive 40 (p := (_, _)) ?_
    simp only [go_sem]
    refine drun_call' ?_
    simp only [go_sem, calV]
    refine e_add _ _ (mod_lt' _) (mod_lt' _) ?_
    refine drun_drive 40 (p := (_, _)) ?_
    simp only [go_sem]
    refine drun_end ?_
    refine run_driveS 80 ?_
    simp only [go_sem, v22_4]
    refine run_call' rfl ?_
    simp only [go_sem, calV]
    refine e_sub _ _ hP (mod_lt' _) ?_
    refine run_driveS 80 ?_
    simp only [go_sem]
    refine run_ret_drop Tryz.func22 res22 [0, 1, 2, 3, 4] (ew _) _ rfl (by simp) ?_ ?_ ?_ hQ
    · simp only [go_sem, hfit, lc_fit, scs_fit, fit, ren, gmap, lw_plain, true_or, or_true]
    · simp [uniq, wrB]
    · simp only [go_sem, rr22, ew_plain]
  · have hN1 : 0 < N := by omega
    have hp0 : 0 < 2 ^ N := Nat.two_pow_pos N
    have hr1 : VCall Tryz.prog G 34 [stE P Q' (.sl 1 0 (2 ^ N) (.grow 26)) (.sl 2 0 (2 ^ N) (.grow 26)), arE (de 3 N) (de 4 N) a b, dv 0 N] [rob us N, some ⟨.ro, ers (2 ^ N) g0⟩, some ⟨.ro, ers (2 ^ N) h0⟩, eb Lf N, eb Rf N] fun v k => ∃ c, v = .sl 5 0 (N + 1) c ∧ k = [rob us N, some ⟨.ro, ers (2 ^ N) g0⟩, some ⟨.ro, ers (2 ^ N) h0⟩, eb Lf N, eb Rf N, some ⟨.ro, List.replicate (54 * N) .unk ++ (ecs (pl Lf Rf us N N P) ++ (ecs Q' ++ [.sl 6 0 1 (.grow 26), .sl 7 0 1 (.grow 26)]))⟩, some ⟨.ro, ers 1 (gl (fun t => linv (us t)) us N N g0)⟩, some ⟨.ro, ers 1 (gl us (fun t => linv (us t)) N N h0)⟩] :=
      hr _ (fun h => absurd h hN0) (fun _ c => ⟨c, rfl, rfl⟩)
    clear hr
    generalize gl (fun t => linv (us t)) us N N g0 = gF at *
    generalize gl us (fun t => linv (us t)) N N h0 = hF at *
    generalize pl Lf Rf us N N P = PF at *
    generalize 2 ^ N = n at *
    rw [rob_pos hN1, eb_pos hN1, eb_pos hN1, de_pos hN1, de_pos hN1, dv_pos hN1] at *
    have g1 := ers_get 1 gF (i := 0) (by omega)
    have g2 := ers_get 1 hF (i := 0) (by omega)
    rw [Nat.zero_mul, List.drop_zero] at g1 g2
    have hw : IntKind.i64.wrap (((N + 1 : Nat) : Int) - 1) = (N : Int) := by rw [wrap_i64 (by omega) (by omega)]; omega
    have hlt : ((N : Int) < ((N + 1 : Nat) : Int)) = True := eq_true (by omega)
    have hd := drop_unk (54 * N) (N * 54) (by omega)
    have hru : ∀ g, rens g (List.replicate (54 * N) V.unk) = List.replicate (54 * N) V.unk := fun g => by
      generalize 54 * N = q
      induction q with
      | zero => rfl
      | succ q ih => rw [List.replicate_succ, rens, ih]; rfl
    refine vcall_body Tryz.func22 nm22 code22 nt22 ?_
    unfold stE arE
    refine run_driveS 80 ?_
    simp only [go_sem, v22, v22_0, v22_1]
    refine run_call' rfl ?_
    simp only [go_sem, calV]
    refine vcall_at hr1 [0, 1, 2, 3, 4] (by simp) ?_ ?_ ?_ ?_
    · simp only [go_sem, hfit, lc_fit, scs_fit, fit, ren, gmap, lw_plain, true_or, or_true]
    · simp [uniq, wrB]
    · simp only [stE_ren, arE_ren, ren, rens, gmap]
      rfl
    rintro v h'' ⟨c, rfl, rfl⟩
    simp only [go_sem, puts, wrB, ren, rens, rens_append, ecs_rens, ers_rens, hru, gmap, Bool.false_eq_true, if_false, renB, Option.map_some, Option.map_none]
    refine run_driveS 80 ?_
    simp only [go_sem, v22_2, hw, hlt, hd]
    refine run_drw (by kernel_rfl) ?_
    refine drun_drive 40 (p := (_, _)) ?_
    simp only [go_sem, v22_3, g1, g2]
    refine drun_call' ?_
    simp only [go_sem, calV]
    refine e_times _ _ (hGf 0) ha ?_
    refine drun_drive 40 (p := (_, _)) ?_
    simp only [go_sem]
    refine drun_call' ?_
    simp only [go_sem, calV]
    refine e_times _ _ (hHf 0) hb ?_
    refine drun_drive 40 (p := (_, _)) ?_
    simp only [go_sem]
    refine drun_call' ?_
    simp only [go_sem, calV]
    refine e_add _ _ (mod_lt' _) (mod_lt' _) ?_
    refine drun_drive 40 (p := (_, _)) ?_
    simp only [go_sem]
    refine drun_call' ?_
    simp only [go_sem, calV]
    refine ref_mul _ _ ha hb ?_
    refine drun_drive 40 (p := (_, _)) ?_
    simp only [go_sem]
    refine drun_call' ?_
    simp only [go_sem, calV]
    refine e_times _ _ hQ' (mod_lt _) ?_
    refine drun_drive 40 (p := (_, _)) ?_
    simp only [go_sem]
    refine drun_call' ?_
    simp only [go_sem, calV]
    refine e_add _ _ (mod_lt' _) (mod_lt' _) ?_
    refine drun_drive 40 (p := (_, _)) ?_
    simp only [go_sem]
    refine drun_end ?_
    refine run_driveS 80 ?_
    simp only [go_sem, v22_4]
    refine run_call' rfl ?_
    simp only [go_sem, calV]
    refine e_sub _ _ hPf (mod_lt' _) ?_
    refine run_driveS 80 ?_
    simp only [go_sem]
    refine run_ret_drop Tryz.func22 res22 [0, 1, 2, 3, 4] (ew _) _ rfl (by simp) ?_ ?_ ?_ hQ
    · simp only [go_sem, hfit, lc_fit, scs_fit, fit, ren, gmap, lw_plain, true_or, or_true]
    · simp [uniq, wrB]
    · simp only [go_sem, rr22, ew_plain]
end
end Go.Vs.Tryz
namespace Go.Vs.Tryz
open Go.Proofs
variable {G : Nat → List V}
set_option linter.unusedSimpArgs false
attribute [local go_sem] lenO_nils lenO_sl sliceAtV Int.sub_zero List.length_append List.all_append ge_iff_le gt_iff_lt Int.natCast_nonneg Int.toNat_natCast Nat.mul_one b_and_ll b_shr_ll b_mul_ll b_add_ll b_or_ll b_shl_ll pick_ll pick_lc pick_bb driveS stopV Option.isSome_some Option.isSome_none Kind.m Kind.w Kind.g look_ro look_rw look_grow drive stepV exo expo evs fillV isNil nilKind eqV eqL optA optM sliceAtV ev kn ldc stc splice appV srcV lenV setd wantV exitV rvs rv one List.length_cons List.length_nil List.cons_append List.nil_append List.append_nil List.replicate List.getD_cons_zero List.getD_cons_succ List.set_cons_zero List.set_cons_succ List.getElem?_cons_zero List.getElem?_cons_succ List.getElem?_nil List.take_succ_cons List.take_zero List.take_nil List.drop_succ_cons List.drop_zero List.drop_nil List.all_cons List.all_nil List.any_cons List.any_nil Bool.and_true Bool.true_and Bool.and_self Option.map_some Option.map_none Option.bind_some Option.some.injEq Nat.add_zero Nat.zero_add Int.toNat_zero Int.toNat_one Int.zero_add Int.add_zero if_true if_false ite_true ite_false and_true true_and and_self ne_eq not_false_eq_true not_true_eq_false decide_true decide_false Bool.false_eq_true Bool.not_true Bool.not_false beq_self_eq_true BEq.rfl Bool.not_eq_true Nat.le_refl Int.le_refl Nat.zero_le List.foldl List.map_cons List.map_nil Prod.mk.injEq Int.cast_ofNat_Int Int.zero_le_ofNat b_add_cc b_add_cl b_add_lc b_mul_cc b_mul_cl b_mul_lc b_sub_cc b_sub_cl b_sub_lc b_and_cc b_and_cl b_and_lc b_or_cc b_or_cl b_or_lc b_xor_cc b_xor_cl b_xor_lc b_andNot_cc b_andNot_cl b_andNot_lc b_shr_cc b_shr_cl b_shr_lc b_shl_cc b_shl_cl b_shl_lc b_lss b_leq b_gtr b_geq b_add_i b_sub_i b_mul_i beq_cc beq_cl beq_lc beq_ll b_quo_i b_rem_i neg_u64 wrap_i64 driveD stepD idsAt idOf maskH_nil restore_nil restore_mask List.filterMap_nil List.filterMap_cons VOp.looks VOp.makes exA cells_agg cells_int cells_bool cells_str cells_nilp cells_ptr cells_glob cells_nils cells_sl cells_nilf cells_fn cells_nili cells_ifc known_agg known_tup known_int known_bool known_str known_nilp known_ptr known_glob known_nils known_sl known_nilf known_fn known_nili known_ifc known_unk one_agg one_tup one_int one_bool one_str one_nilp one_ptr one_glob one_nils one_sl one_nilf one_fn one_nili one_ifc asK_int asN_int asB_bool asS_str asG_agg asT_tup
attribute [local go_sem ↓] lc_len lc_take lc_drop lc_known lc_one lc_rens lc_cells lw_known lw_agg lw_asG scs_known scs_one scs_len
attribute [local go_sem ↓] lc_take_add lc_drop_add
attribute [local go_sem] bool_tf bool_ft
set_option maxRecDepth 100000
set_option maxHeartbeats 1000000
def t3 (n : Nat) (x : Nat) (y z : Nat → Nat) (j : Nat) : Nat := if j = 0 then x else if j < 1 + n then y (j - 1) else z (j - 1 - n)
end Go.Vs.Tryz
namespace Go.Vs.Tryz
open Go.Proofs
variable {G : Nat → List V}
set_option linter.unusedSimpArgs false
attribute [local go_sem] lenO_nils lenO_sl sliceAtV Int.sub_zero List.length_append List.all_append ge_iff_le gt_iff_lt Int.natCast_nonneg Int.toNat_natCast Nat.mul_one b_and_ll b_shr_ll b_mul_ll b_add_ll b_or_ll b_shl_ll pick_ll pick_lc pick_bb driveS stopV Option.isSome_some Option.isSome_none Kind.m Kind.w Kind.g look_ro look_rw look_grow drive stepV exo expo evs fillV isNil nilKind eqV eqL optA optM sliceAtV ev kn ldc stc splice appV srcV lenV setd wantV exitV rvs rv one List.length_cons List.length_nil List.cons_append List.nil_append List.append_nil List.replicate List.getD_cons_zero List.getD_cons_succ List.set_cons_zero List.set_cons_succ List.getElem?_cons_zero List.getElem?_cons_succ List.getElem?_nil List.take_succ_cons List.take_zero List.take_nil List.drop_succ_cons List.drop_zero List.drop_nil List.all_cons List.all_nil List.any_cons List.any_nil Bool.and_true Bool.true_and Bool.and_self Option.map_some Option.map_none Option.bind_some Option.some.injEq Nat.add_zero Nat.zero_add Int.toNat_zero Int.toNat_one Int.zero_add Int.add_zero if_true if_false ite_true ite_false and_true true_and and_self ne_eq not_false_eq_true not_true_eq_false decide_true decide_false Bool.false_eq_true Bool.not_true Bool.not_false beq_self_eq_true BEq.rfl Bool.not_eq_true Nat.le_refl Int.le_refl Nat.zero_le List.foldl List.map_cons List.map_nil Prod.mk.injEq Int.cast_ofNat_Int Int.zero_le_ofNat b_add_cc b_add_cl b_add_lc b_mul_cc b_mul_cl b_mul_lc b_sub_cc b_sub_cl b_sub_lc b_and_cc b_and_cl b_and_lc b_or_cc b_or_cl b_or_lc b_xor_cc b_xor_cl b_xor_lc b_andNot_cc b_andNot_cl b_andNot_lc b_shr_cc b_shr_cl b_shr_lc b_shl_cc b_shl_cl b_shl_lc b_lss b_leq b_gtr b_geq b_add_i b_sub_i b_mul_i beq_cc beq_cl beq_lc beq_ll b_quo_i b_rem_i neg_u64 wrap_i64 driveD stepD idsAt idOf maskH_nil restore_nil restore_mask List.filterMap_nil List.filterMap_cons VOp.looks VOp.makes exA cells_agg cells_int cells_bool cells_str cells_nilp cells_ptr cells_glob cells_nils cells_sl cells_nilf cells_fn cells_nili cells_ifc known_agg known_tup known_int known_bool known_str known_nilp known_ptr known_glob known_nils known_sl known_nilf known_fn known_nili known_ifc known_unk one_agg one_tup one_int one_bool one_str one_nilp one_ptr one_glob one_nils one_sl one_nilf one_fn one_nili one_ifc asK_int asN_int asB_bool asS_str asG_agg asT_tup
attribute [local go_sem_proc] Nat.reduceAdd Nat.reduceSub Nat.reduceLeDiff Nat.reduceMul Nat.reduceLT Nat.reduceEqDiff Int.reduceLT Int.reduceLE Int.reduceAdd Int.reduceSub Int.reduceMul Int.reduceToNat reduceIte reduceCtorEq Nat.reduceBEq
section
attribute [local go_sem ↓] lc_len lc_take lc_drop lc_known lc_one lc_rens lc_cells lw_known lw_agg lw_asG scs_known scs_one scs_len
attribute [local go_sem] lt_nat lt_natl lt_lnat lt_ll bool_tf bool_ft
attribute [local go_sem ↓] ecs_len ecs_take ecs_drop ecs_known ecs_one ecs_rens ecs_fit ecs_cells ew_known ew_agg ew_asG ecs_kind ecs_k ecs_l ers_known ers_one ers_len ers_rens ers_fit
set_option maxRecDepth 100000
set_option maxHeartbeats 1000000
theorem line_ (k : Nat) {h : Heap} {R : V → Heap → Prop} (hQ : R (lw k) h) : VCall Tryz.prog G 12 [lw k] h R := by
  refine vcall_plain (Q := fun v => v = lw k) ?_ (fun g => by simp only [rens, lw_plain]) (fun v g hv => by subst hv; exact lw_plain _ g) (fun v hv => by subst hv; exact hQ)
  refine vcall_body Tryz.func12 nm12 code12 nt12 ?_
  refine run_driveS 80 ?_
  simp only [go_sem, v12, v12_0, v12_1]
  refine run_ret_drop Tryz.func12 res12 [] (lw k) [] rfl (by simp) trivial (by simp [uniq]) ?_ ⟨rfl, rfl⟩
  simp only [go_sem, rr12, lw_plain]
theorem doc_line (k : Nat) (hk : k < 115792089237316195423570985008687907853269984665640564039457584007913129639936) {h : Heap} {R : V → Heap → Prop} (hQ : R (ew (k % ell)) h) : VCall Tryz.prog G 14 [lw k] h R := by
  refine vcall_plain (Q := fun v => v = ew (k % ell)) ?_ (fun g => by simp only [rens, lw_plain]) (fun v g hv => by subst hv; exact ew_plain _ g) (fun v hv => by subst hv; exact hQ)
  refine vcall_body Tryz.func14 nm14 code14 nt14 ?_
  refine run_driveS 80 ?_
  simp only [go_sem, v14, v14_0, v14_1]
  refine run_call' rfl ?_
  simp only [go_sem, calV]
  refine ref_least k hk ?_
  refine run_driveS 80 ?_
  simp only [go_sem]
  refine run_call' rfl ?_
  simp only [go_sem, calV]
  refine line_of _ ?_
  refine run_driveS 80 ?_
  simp only [go_sem]
  refine run_ret_drop Tryz.func14 res14 [] (ew (k % ell)) [] rfl (by simp) trivial (by simp [uniq]) ?_ ⟨rfl, rfl⟩
  simp only [go_sem, rr14, ew_plain]
def liv (n i : Nat) (uv : V) : List V := [uv, .unk, .nils, .sl 1 0 (n + 1) (.exact (n + 1)), .int .i64 i] ++ List.replicate 30 .unk
def lih (b0 : Option Blk) (f : Nat → Nat) (n i : Nat) : Heap := [b0, some ⟨.rw, scs (n + 1) fun j => if j < i then f j else 0⟩]
theorem lines_loop (f : Nat → Nat) (N m n : Nat) (hN : n ≤ N) (hn : n ≤ 2100) {Q : V → Heap → Prop} {K : List TI}
    (hK : Run Tryz.prog G 13 1 Q (K, ⟨liv n n (.sl 0 0 n (.exact m)), lih (some ⟨.ro, scs N f⟩) f n n⟩)) : ∀ k i, i + k = n → Run Tryz.prog G 13 1 Q (.l v13_8 :: .b 0 :: K, ⟨liv n i (.sl 0 0 n (.exact m)), lih (some ⟨.ro, scs N f⟩) f n i⟩)
  | 0, i, h => by
    obtain rfl : i = n := by omega
    have h0 : ((i : Int) < (i : Int)) = False := eq_false (by omega)
    unfold liv lih
    refine run_loop_eq v13_8.eq_1 ?_
    refine run_driveS 80 ?_
    simp only [go_sem, v13_4, h0]
    refine run_exit rfl ?_
    refine run_rename [0, 1] rfl (by simp) ?_ ?_ ?_ hK
    · unfold lih
      simp only [go_sem, hfit, lc_fit, scs_fit, fit, ren, gmap, lw_plain, true_or, or_true]
    · simp [uniq, lih, wrB]
    · unfold liv
      simp only [go_sem, hfit, lc_fit, scs_fit, fit, ren, gmap, lw_plain, true_or, or_true]
  | k + 1, i, h => by
    have ih := lines_loop f N m n hN hn hK k (i + 1) (by omega)
    have h0 : ((i : Int) < (n : Int)) = True := eq_true (by omega)
    have h1 : ((i : Int) < ((n + 1 : Nat) : Int)) = True := eq_true (by omega)
    have hg := scs_get' N f (i := i) (by omega)
    have hin : (i * 4 + 4 ≤ (n + 1) * 4) = True := eq_true (by omega)
    have hset := scs_set (n + 1) (fun j => if j < i then f j else 0) (fun j => if j < i + 1 then f j else 0) (i := i) (v := f i) (by omega) (by rw [if_pos (by omega)]) (fun j _ hj => by by_cases h1 : j < i <;> simp [h1] <;> omega)
    have hw : IntKind.i64.wrap ((i : Int) + 1) = ((i + 1 : Nat) : Int) := by rw [wrap_i64 (by omega) (by omega)]; omega
    unfold liv lih
    refine run_loop_eq v13_8.eq_1 ?_
    refine run_driveS 80 ?_
    simp only [go_sem, v13_4, v13_6, v13_5, h0, hg]
    refine run_call' rfl ?_
    simp only [go_sem, calV]
    refine line_ _ ?_
    refine run_driveS 80 ?_
    simp only [go_sem, v13_7, h1, hin, hset, hw]
    refine run_rename [0, 1] rfl (by simp) ?_ ?_ ?_ ih
    · unfold lih
      simp only [go_sem, hfit, lc_fit, scs_fit, fit, ren, gmap, lw_plain, true_or, or_true]
    · simp [uniq, lih, wrB]
    · unfold liv
      simp only [go_sem, hfit, lc_fit, scs_fit, fit, ren, gmap, lw_plain, true_or, or_true]
theorem lines_ (f : Nat → Nat) (N n : Nat) (uv : V) (b0 : Option Blk) (hi : In f N uv b0) (hn : n = min N 2100) (Q : V → Heap → Prop) (hQ : Q (.sl 1 0 n (.exact (n + 1))) [b0, some ⟨.rw, scs n f ++ lc 77⟩]) : VCall Tryz.prog G 13 [uv] [b0] Q := by
  have hend : (scs (n + 1) fun j => if j < n + 1 then (if j < n then f j else 77) else 0) = scs n f ++ lc 77 := by
    show (scs n fun j => if j < n + 1 then (if j < n then f j else 77) else 0) ++ lc (if n < n + 1 then (if n < n then f n else 77) else 0) = _
    rw [if_pos (by omega), if_neg (by omega)]
    congr 1
    exact scs_congr fun j hj => by rw [if_pos (by omega), if_pos hj]
  have hft : ∀ g, fit g (scs n f ++ lc 77) (scs n f ++ lc 77) := fun g => fit_same (by rw [rens_append, scs_rens, lc_rens])
  have h77 : [V.int .u64 (nl 77), .int .u64 (nl 0), .int .u64 (nl 0), .int .u64 (nl 0)] = lc 77 := rfl
  have h77' : [V.int .u64 (nl 77), .int .u64 (nl 0), .int .u64 (nl 0), .int .u64 (nl 0)] = lc 77 := rfl
  refine vcall_body Tryz.func13 nm13 code13 nt13 ?_
  cases hi with
  | nil =>
    obtain rfl : n = 0 := by omega
    refine run_driveS 80 ?_
    simp only [go_sem, v13, v13_0, v13_1]
    refine run_call' rfl ?_
    simp only [go_sem, calV]
    refine cut_nil ?_
    refine run_driveS 80 ?_
    simp only [go_sem, v13_2, v13_3, v13_9]
    refine run_loop_eq v13_8.eq_1 ?_
    refine run_driveS 80 ?_
    simp only [go_sem, v13_4]
    refine run_exit rfl ?_
    refine run_driveS 80 ?_
    simp only [go_sem, v13_10, h77]
    refine run_call' rfl ?_
    simp only [go_sem, calV]
    refine line_ _ ?_
    refine run_driveS 80 ?_
    simp only [go_sem, v13_11]
    refine run_ret_drop Tryz.func13 res13 [0, 1] (.sl 1 0 0 (.exact (0 + 1))) _ rfl (by simp) ?_ ?_ ?_ hQ
    · simp only [go_sem, hfit, lc_fit, scs_fit, fit, ren, gmap, lw_plain, true_or, or_true, hft]
      exact hft _
    · simp [uniq, wrB]
    · simp only [go_sem, rr13, ren, gmap]
  | sl M m hm =>
    refine run_driveS 80 ?_
    simp only [go_sem, v13, v13_0, v13_1]
    refine run_call' rfl ?_
    simp only [go_sem, calV]
    refine cut_sl' 0 N m hm ?_
    rw [← hn]
    have hw : IntKind.i64.wrap ((n : Int) + 1) = ((n + 1 : Nat) : Int) := by rw [wrap_i64 (by omega) (by omega)]; omega
    have h2 : ((32 : Int) * ((n + 1 : Nat) : Int) ≤ 281474976710656) = True := eq_true (by omega)
    have h3 : (((n + 1 : Nat) : Int) ≤ 9223372036854775807) = True := eq_true (by omega)
    refine run_driveS 80 ?_
    simp only [go_sem, v13_2, v13_3, v13_9, hw, h2, h3, ↓scs_zero]
    refine run_rename [0, 1] rfl (by simp) ?_ ?_ ?_ (lines_loop f N m n (by omega) (by omega) (K := [.c (.seq (.reg v13_10) (.seq (.reg v13_11) .ret))]) ?_ n 0 (by omega))
    · unfold lih
      rw [show (scs (n + 1) fun j => if j < 0 then f j else 0) = scs (n + 1) fun _ => 0 from scs_congr fun j _ => if_neg (by omega)]
      simp only [go_sem, hfit, lc_fit, scs_fit, fit, ren, gmap, lw_plain, true_or, or_true]
    · simp [uniq, lih, wrB]
    · unfold liv
      simp only [go_sem, hfit, lc_fit, scs_fit, fit, ren, gmap, lw_plain, true_or, or_true]
    · unfold liv lih
      have h1 : ((n : Int) < ((n + 1 : Nat) : Int)) = True := eq_true (by omega)
      have h4 : ((n : Int) ≤ ((n + 1 : Nat) : Int)) = True := eq_true (by omega)
      have hin : (n * 4 + 4 ≤ (n + 1) * 4) = True := eq_true (by omega)
      have hset := scs_set (n + 1) (fun j => if j < n then f j else 0) (fun j => if j < n + 1 then (if j < n then f j else 77) else 0) (i := n) (v := 77) (by omega) (by simp) (fun j _ hj => by by_cases h1 : j < n <;> simp [h1] <;> omega)
      have h77 : [V.int .u64 (nl 77), .int .u64 (nl 0), .int .u64 (nl 0), .int .u64 (nl 0)] = lc 77 := rfl
      refine run_driveS 80 ?_
      simp only [go_sem, v13_10, h77]
      refine run_call' rfl ?_
      simp only [go_sem, calV]
      refine line_ _ ?_
      refine run_driveS 80 ?_
      simp only [go_sem, v13_11, h1, h4, hin, hset, hend]
      refine run_ret_drop Tryz.func13 res13 [0, 1] (.sl 1 0 n (.exact (n + 1))) _ rfl (by simp) ?_ ?_ ?_ hQ
      · simp only [go_sem, hfit, lc_fit, scs_fit, fit, ren, gmap, lw_plain, true_or, or_true, hft]
      · simp [uniq, wrB]
      · simp only [go_sem, rr13, ren, gmap]
end
section
attribute [local go_sem ↓] lc_len lc_take lc_drop lc_known lc_one lc_rens lc_cells lw_known lw_agg lw_asG scs_known scs_one scs_len
attribute [local go_sem] lt_nat lt_natl lt_lnat lt_ll bool_tf bool_ft
attribute [local go_sem ↓] ecs_len ecs_take ecs_drop ecs_known ecs_one ecs_rens ecs_fit ecs_cells ew_known ew_agg ew_asG ecs_kind ecs_k ecs_l ers_known ers_one ers_len ers_rens ers_fit
set_option maxRecDepth 100000
set_option maxHeartbeats 1000000
def dlv (n : Nat) (m : Nat) (i : Nat) : List V := [.sl 0 0 n (.exact m), .unk, .nils, de 1 i, .int .i64 i] ++ List.replicate 17 .unk
theorem docl_loop (f : Nat → Nat) (hf : ∀ j, f j < 115792089237316195423570985008687907853269984665640564039457584007913129639936) (N m n : Nat) (hN : n ≤ N) (hn : n ≤ 2100) {Q : V → Heap → Prop} {K : List TI}
    (hK : Run Tryz.prog G 15 1 Q (K, ⟨dlv n m n, [some ⟨.ro, scs N f⟩, ebg (fun j => f j % ell) n]⟩)) : ∀ k i, i + k = n → Run Tryz.prog G 15 1 Q (.l v15_8 :: .b 0 :: K, ⟨dlv n m i, [some ⟨.ro, scs N f⟩, ebg (fun j => f j % ell) i]⟩)
  | 0, i, h => by
    obtain rfl : i = n := by omega
    have h0 : ((i : Int) < (i : Int)) = False := eq_false (by omega)
    unfold dlv
    by_cases hi : i = 0
    · subst hi
      rw [show de 1 0 = .nils from rfl, show ebg (fun j => f j % ell) 0 = none from rfl]
      refine run_loop_eq v15_8.eq_1 ?_
      refine run_driveS 80 ?_
      simp only [go_sem, v15_4]
      refine run_exit rfl ?_
      refine run_rename [0, 1] rfl (by simp) ?_ ?_ ?_ hK
      · rw [show ebg (fun j => f j % ell) 0 = none from rfl]
        simp only [go_sem, hfit, lc_fit, scs_fit, fit, ren, gmap, lw_plain, true_or, or_true]
      · simp [uniq, ebg, wrB]
      · unfold dlv
        rw [show de 1 0 = .nils from rfl]
        simp only [go_sem, hfit, lc_fit, scs_fit, fit, ren, gmap, lw_plain, true_or, or_true]
    · have hi : 0 < i := by omega
      rw [de_pos hi, ebg_pos hi]
      refine run_loop_eq v15_8.eq_1 ?_
      refine run_driveS 80 ?_
      simp only [go_sem, v15_4, h0]
      refine run_exit rfl ?_
      refine run_rename [0, 1] rfl (by simp) ?_ ?_ ?_ hK
      · rw [ebg_pos hi]
        simp only [go_sem, hfit, lc_fit, scs_fit, fit, ren, gmap, lw_plain, true_or, or_true]
      · simp [uniq, wrB]
      · unfold dlv
        rw [de_pos hi]
        simp only [go_sem, hfit, lc_fit, scs_fit, fit, ren, gmap, lw_plain, true_or, or_true]
  | k + 1, i, h => by
    have ih := docl_loop f hf N m n hN hn hK k (i + 1) (by omega)
    have h0 : ((i : Int) < (n : Int)) = True := eq_true (by omega)
    have hg := scs_get' N f (i := i) (by omega)
    have hw : IntKind.i64.wrap ((i : Int) + 1) = ((i + 1 : Nat) : Int) := by rw [wrap_i64 (by omega) (by omega)]; omega
    unfold dlv
    by_cases hi : i = 0
    · subst hi
      have h0' : ((0 : Int) < (n : Int)) = True := eq_true (by omega)
      rw [Nat.zero_mul, List.drop_zero] at hg
      rw [show de 1 0 = .nils from rfl, show ebg (fun j => f j % ell) 0 = none from rfl]
      refine run_loop_eq v15_8.eq_1 ?_
      refine run_driveS 80 ?_
      simp only [go_sem, v15_4, v15_6, v15_5, h0', hg]
      refine run_call' rfl ?_
      simp only [go_sem, calV]
      refine doc_line _ (hf 0) ?_
      refine run_driveS 80 ?_
      simp only [go_sem, v15_7]
      refine run_rename [0, 3] rfl (by simp) ?_ ?_ ?_ ih
      · rw [ebg_pos (by omega)]
        rw [show ers (0 + 1) (fun j => f j % ell) = ecs (f 0 % ell) from rfl]
        simp only [go_sem, hfit, lc_fit, scs_fit, fit, ren, gmap, lw_plain, true_or, or_true]
      · simp [uniq, ebg, wrB]
      · unfold dlv
        rw [de_pos (by omega)]
        simp only [go_sem, hfit, lc_fit, scs_fit, fit, ren, gmap, lw_plain, true_or, or_true]
    · have hi : 0 < i := by omega
      rw [de_pos hi, ebg_pos hi]
      have a1 : ((i + 1) * 224 ≤ 140737488355328) = True := eq_true (by omega)
      have a2 : (i + 1 ≤ 9223372036854775807) = True := eq_true (by omega)
      have a3 := ers_snoc i (fun j => f j % ell) (v := f i % ell) rfl
      refine run_loop_eq v15_8.eq_1 ?_
      refine run_driveS 80 ?_
      simp only [go_sem, v15_4, v15_6, v15_5, h0, hg]
      refine run_call' rfl ?_
      simp only [go_sem, calV]
      refine doc_line _ (hf i) ?_
      refine run_driveS 80 ?_
      simp only [go_sem, v15_7, a1, a2, a3, hw]
      refine run_rename [0, 3] rfl (by simp) ?_ ?_ ?_ ih
      · rw [ebg_pos (by omega)]
        simp only [go_sem, hfit, lc_fit, scs_fit, fit, ren, gmap, lw_plain, true_or, or_true]
      · simp [uniq, ebg, wrB]
      · unfold dlv
        rw [de_pos (by omega)]
        simp only [go_sem, hfit, lc_fit, scs_fit, fit, ren, gmap, lw_plain, true_or, or_true]
theorem doc_lines (f : Nat → Nat) (hf : ∀ j, f j < 115792089237316195423570985008687907853269984665640564039457584007913129639936) (N n : Nat) (uv : V) (b0 : Option Blk) (hi : In f N uv b0) (hn : n = min N 2100) (Q : V → Heap → Prop) (hQ : Q (de 1 n) [b0, ebg (fun j => f j % ell) n]) : VCall Tryz.prog G 15 [uv] [b0] Q := by
  refine vcall_body Tryz.func15 nm15 code15 nt15 ?_
  cases hi with
  | nil =>
    obtain rfl : n = 0 := by omega
    refine run_driveS 80 ?_
    simp only [go_sem, v15, v15_0, v15_1]
    refine run_call' rfl ?_
    simp only [go_sem, calV]
    refine cut_nil ?_
    refine run_driveS 80 ?_
    simp only [go_sem, v15_2, v15_3, v15_9]
    refine run_loop_eq v15_8.eq_1 ?_
    refine run_driveS 80 ?_
    simp only [go_sem, v15_4]
    refine run_exit rfl ?_
    refine run_driveS 80 ?_
    simp only [go_sem, v15_10]
    refine run_ret_drop Tryz.func15 res15 [0, 1] .nils _ rfl (by simp) ?_ ?_ ?_ hQ
    · rw [show ebg (fun j => f j % ell) 0 = none from rfl]
      simp only [go_sem, hfit, lc_fit, scs_fit, fit, ren, gmap, lw_plain, true_or, or_true]
    · simp [uniq, ebg, wrB]
    · simp only [go_sem, rr15, ren, gmap]
  | sl M m hm =>
    refine run_driveS 80 ?_
    simp only [go_sem, v15, v15_0, v15_1]
    refine run_call' rfl ?_
    simp only [go_sem, calV]
    refine cut_sl' 0 N m hm ?_
    rw [← hn]
    refine run_driveS 80 ?_
    simp only [go_sem, v15_2, v15_3, v15_9]
    refine run_rename [0, 1] rfl (by simp) ?_ ?_ ?_ (docl_loop f hf N m n (by omega) (by omega) (K := [.c (.seq (.reg v15_10) .ret)]) ?_ n 0 (by omega))
    · rw [show ebg (fun j => f j % ell) 0 = none from rfl]
      simp only [go_sem, hfit, lc_fit, scs_fit, fit, ren, gmap, lw_plain, true_or, or_true]
    · simp [uniq, ebg, wrB]
    · unfold dlv
      rw [show de 1 0 = .nils from rfl]
      simp only [go_sem, hfit, lc_fit, scs_fit, fit, ren, gmap, lw_plain, true_or, or_true]
    · unfold dlv
      by_cases h0 : n = 0
      · rw [h0] at hQ ⊢
        rw [show ebg (fun j => f j % ell) 0 = none from rfl, show de 1 0 = .nils from rfl] at hQ ⊢
        refine run_driveS 80 ?_
        simp only [go_sem, v15_10]
        refine run_ret_drop Tryz.func15 res15 [0, 1] .nils _ rfl (by simp) ?_ ?_ ?_ hQ
        · simp only [go_sem, hfit, lc_fit, scs_fit, fit, ren, gmap, lw_plain, true_or, or_true]
        · simp [uniq, wrB]
        · simp only [go_sem, rr15, ren, gmap]
      · rw [ebg_pos (by omega), de_pos (by omega)] at hQ ⊢
        refine run_driveS 80 ?_
        simp only [go_sem, v15_10]
        refine run_ret_drop Tryz.func15 res15 [0, 1] (.sl 1 0 n (.grow 26)) _ rfl (by simp) ?_ ?_ ?_ hQ
        · simp only [go_sem, hfit, lc_fit, scs_fit, fit, ren, gmap, lw_plain, true_or, or_true]
        · simp [uniq, wrB]
        · simp only [go_sem, rr15, ren, gmap]
end
section
attribute [local go_sem ↓] lc_len lc_take lc_drop lc_known lc_one lc_rens lc_cells lw_known lw_agg lw_asG scs_known scs_one scs_len
attribute [local go_sem] lt_nat lt_natl lt_lnat lt_ll bool_tf bool_ft
attribute [local go_sem ↓] ecs_len ecs_take ecs_drop ecs_known ecs_one ecs_rens ecs_fit ecs_cells ew_known ew_agg ew_asG ecs_kind ecs_k ecs_l ers_known ers_one ers_len ers_rens ers_fit
set_option maxRecDepth 100000
set_option maxHeartbeats 1000000
def ivl (i n m : Nat) (z : Bool) : V := if z = true then .nils else .sl i 0 n (.exact m)
def ivb (f : Nat → Nat) (n : Nat) (z : Bool) : Option Blk := if z = true then none else some ⟨.ro, scs n f⟩
def Ok (n m : Nat) (z : Bool) : Prop := n ≤ m ∧ (z = true → n = 0)
theorem In_iv {f : Nat → Nat} {n m : Nat} {z : Bool} (h : Ok n m z) : In f n (ivl 0 n m z) (ivb f n z) := by
  cases z
  · exact In.sl n m h.1
  · obtain rfl := h.2 rfl
    exact In.nil
theorem ivl_ren (i n m : Nat) (z : Bool) (g : Nat → Nat) : ren g (ivl i n m z) = ivl (g i) n m z := by cases z <;> rfl
theorem ivl_known (i n m : Nat) (z : Bool) : (ivl i n m z).known = true := by cases z <;> rfl
theorem ivl_one (i n m : Nat) (z : Bool) : (ivl i n m z).one = true := by cases z <;> rfl
theorem wrB_ivb (f : Nat → Nat) (n : Nat) (z : Bool) : wrB (ivb f n z) = false := by cases z <;> rfl
theorem ebg_map (f g' : Nat → Nat) (n : Nat) : (ebg f n).map (renB g') = ebg f n := by
  unfold ebg
  split
  · rfl
  · simp only [Option.map_some, renB, ers_rens]
attribute [local go_sem ↓] ivl_known ivl_one lc_take_add lc_drop_add ecs_take_add ecs_drop_add de_known de_one
theorem puts_ro {g : Nat → Nat} : ∀ {h' h'' : Heap} {μ : List Nat} {h : Heap}, h'.all (fun b => !wrB b) = true → h'.length = μ.length → h'.length ≤ h''.length → puts g h' h'' μ h = h ++ (h''.drop h'.length).map (Option.map (renB g))
  | [], h'', μ, h, _, _, _ => by simp [puts]
  | b :: h', [], μ, h, _, _, h3 => by simp at h3
  | b :: h', c :: h'', [], h, _, h2, _ => by simp at h2
  | b :: h', c :: h'', i :: μ, h, h1, h2, h3 => by
    simp only [List.all_cons, Bool.and_eq_true, Bool.not_eq_true'] at h1
    simp only [puts, h1.1, Bool.false_eq_true, if_false, List.length_cons, List.drop_succ_cons]
    exact puts_ro h1.2 (by simpa using h2) (by simpa using h3)
theorem hfit_one {g : Nat → Nat} {p : Nat} {h : Heap} {f : Nat → Nat} {n : Nat} {z : Bool} (hp : h[p]? = some (ivb f n z)) : hfit g h [p] [ivb f n z] := by
  cases z
  · simp only [hfit, hp]
    refine ⟨?_, trivial⟩
    show (Kind.ro = Kind.ro ∨ _) ∧ fit g (scs n f) (scs n f)
    exact ⟨.inl rfl, fit_same (scs_rens ..)⟩
  · exact ⟨trivial, trivial⟩
theorem lines_at (f : Nat → Nat) (n m : Nat) (z : Bool) (hok : Ok n m z) (p : Nat) {h : Heap} (hp : h[p]? = some (ivb f n z)) {R : V → Heap → Prop} (hR : R (.sl h.length 0 (min n 2100) (.exact (min n 2100 + 1))) (h ++ [some ⟨.rw, scs (min n 2100) f ++ lc 77⟩])) : VCall Tryz.prog G 13 [ivl p n m z] h R := by
  refine vcall_at (lines_ f n (min n 2100) (ivl 0 n m z) (ivb f n z) (In_iv hok) rfl (fun v k => v = .sl 1 0 (min n 2100) (.exact (min n 2100 + 1)) ∧ k = [ivb f n z, some ⟨.rw, scs (min n 2100) f ++ lc 77⟩]) ⟨rfl, rfl⟩) [p] ?_ (hfit_one hp) ?_ ?_ ?_
  · intro i hi
    obtain rfl : i = p := by simpa using hi
    exact (List.getElem?_eq_some_iff.1 hp).1
  · simp [uniq]
  · simp only [rens, ivl_ren, gmap]
  · rintro v k ⟨rfl, rfl⟩
    rw [puts_ro (by simp [wrB_ivb]) rfl (by simp)]
    simpa [ren, gmap, renB, rens_append, scs_rens, lc_rens] using hR
theorem doc_lines_at (f : Nat → Nat) (hf : ∀ j, f j < 115792089237316195423570985008687907853269984665640564039457584007913129639936) (n m : Nat) (z : Bool) (hok : Ok n m z) (p : Nat) {h : Heap} (hp : h[p]? = some (ivb f n z)) {R : V → Heap → Prop} (hR : R (de h.length (min n 2100)) (h ++ [ebg (fun j => f j % ell) (min n 2100)])) : VCall Tryz.prog G 15 [ivl p n m z] h R := by
  refine vcall_at (doc_lines f hf n (min n 2100) (ivl 0 n m z) (ivb f n z) (In_iv hok) rfl (fun v k => v = de 1 (min n 2100) ∧ k = [ivb f n z, ebg (fun j => f j % ell) (min n 2100)]) ⟨rfl, rfl⟩) [p] ?_ (hfit_one hp) ?_ ?_ ?_
  · intro i hi
    obtain rfl : i = p := by simpa using hi
    exact (List.getElem?_eq_some_iff.1 hp).1
  · simp [uniq]
  · simp only [rens, ivl_ren, gmap]
  · rintro v k ⟨rfl, rfl⟩
    rw [puts_ro (by simp [wrB_ivb]) rfl (by simp)]
    have e : ren (gmap [p] h.length) (de 1 (min n 2100)) = de h.length (min n 2100) := by
      unfold de; split <;> simp [ren, gmap]
    rw [e]
    simpa [ebg_map] using hR
theorem de_cells (b n : Nat) : cellsOf (de b n) = [de b n] := by unfold de; split <;> rfl
def bfit (g : Nat → Nat) : Option Blk → Option Blk → Prop
  | none, _ => True
  | some b1, some b => (b1.kind = b.kind ∨ b1.kind = .ro ∧ b.kind.m = true) ∧ fit g b1.cells b.cells
  | some _, none => False
theorem hfit_cons {g : Nat → Nat} {h : Heap} {i : Nat} {μ : List Nat} {b : Option Blk} {h' : Heap} {c : Option Blk} (hc : h[i]? = some c) (hb : bfit g b c) (hr : hfit g h μ h') : hfit g h (i :: μ) (b :: h') := by
  cases b with
  | none => exact ⟨trivial, hr⟩
  | some b1 =>
    cases c with
    | none => exact hb.elim
    | some c => simp only [hfit, hc]; exact ⟨hb, hr⟩
theorem hfit_cons_none {g : Nat → Nat} {h : Heap} {i : Nat} {μ : List Nat} {h' : Heap} (hr : hfit g h μ h') : hfit g h (i :: μ) (none :: h') := ⟨trivial, hr⟩
theorem hfit_nil {g : Nat → Nat} {h : Heap} : hfit g h [] [] := trivial
theorem bfit_same {g : Nat → Nat} {k : Kind} {c : List V} (h : rens g c = c) (hk : k.m = true := by rfl) : bfit g (some ⟨.ro, c⟩) (some ⟨k, c⟩) := ⟨.inr ⟨rfl, hk⟩, fit_same h⟩
theorem bfit_eb {g f : Nat → Nat} {n : Nat} : bfit g (eb f n) (ebg f n) := by
  unfold eb ebg
  split
  · trivial
  · exact bfit_same (ers_rens ..)
theorem bfit_eb' {g f : Nat → Nat} {n : Nat} : bfit g (eb f n) (eb f n) := by
  unfold eb
  split
  · trivial
  · exact bfit_same (ers_rens ..)
theorem bfit_ivb {g f : Nat → Nat} {n : Nat} {z : Bool} : bfit g (ivb f n z) (ivb f n z) := by
  cases z
  · exact bfit_same (scs_rens ..)
  · trivial
theorem bfit_sm {g f : Nat → Nat} {n m : Nat} {k : Kind} (hk : k.m = true := by rfl) : bfit g (some ⟨.ro, scs n f ++ lc m⟩) (some ⟨k, scs n f ++ lc m⟩) := bfit_same (by rw [rens_append, scs_rens, lc_rens]) hk
def cas (Q P : Nat) (g h a b l r : V) (ea eb : Nat) (s given lab n : V) : List V := lc Q ++ (lc P ++ (g :: h :: a :: b :: l :: r :: (lc ea ++ (lc eb ++ [s, given, lab, n]))))
theorem statement (g h : Nat → Nat) (hg : ∀ j, g j < 115792089237316195423570985008687907853269984665640564039457584007913129639936) (hh : ∀ j, h j < 115792089237316195423570985008687907853269984665640564039457584007913129639936) (Q' P ea eb' nG mG nH mH nA mA nB mB nL mL nR mR nU mU : Nat) (zG zH zA zB zL zR zU : Bool) (hG : Ok nG mG zG) (hH : Ok nH mH zH) (hP : P < 115792089237316195423570985008687907853269984665640564039457584007913129639936) (hQ' : Q' < 115792089237316195423570985008687907853269984665640564039457584007913129639936) (sc lab : V) (hsc : ∀ f, ren f sc = sc) (hlab : ∀ f, ren f lab = lab) (hsk : sc.known = true) (hlk : lab.known = true) (N : Int) (Q : V → Heap → Prop)
    (hQ : Q (.tup [stL P Q' (.sl 7 0 (min nG 2100) (.exact (min nG 2100 + 1))) (.sl 8 0 (min nH 2100) (.exact (min nH 2100 + 1))), stE (P % ell) (Q' % ell) (de 9 (min nG 2100)) (de 10 (min nH 2100))])
      [ivb g nG zG, ivb h nH zH, none, none, none, none, none, some ⟨.ro, scs (min nG 2100) g ++ lc 77⟩, some ⟨.ro, scs (min nH 2100) h ++ lc 77⟩, eb (fun j => g j % ell) (min nG 2100), eb (fun j => h j % ell) (min nH 2100)]) :
    VCall Tryz.prog G 4 [.agg (cas Q' P (ivl 0 nG mG zG) (ivl 1 nH mH zH) (ivl 2 nA mA zA) (ivl 3 nB mB zB) (ivl 4 nL mL zL) (ivl 5 nR mR zR) ea eb' sc (ivl 6 nU mU zU) lab (.int .i64 N))] [ivb g nG zG, ivb h nH zH, none, none, none, none, none] Q := by
  refine vcall_body Tryz.func4 nm4 code4 nt4 ?_
  unfold cas
  have b1 : ∀ r, List.take 8 (lc P ++ lc Q' ++ r) = lc P ++ lc Q' := fun _ => rfl
  have b2 : ∀ a b, List.drop 9 (lc P ++ lc Q' ++ [a, b]) = [b] := fun _ _ => rfl
  have b3 : ∀ a b, List.take 9 (lc P ++ lc Q' ++ [a] ++ b) = lc P ++ lc Q' ++ [a] := fun _ _ => rfl
  have b4 : ∀ a b, List.drop 10 (lc P ++ lc Q' ++ [a] ++ [b]) = [] := fun _ _ => rfl
  have hl : (ecs (P % ell) ++ ecs (Q' % ell)).length = 52 := by rw [List.length_append, ecs_len, ecs_len]
  have b5 : ∀ r, List.take 52 (ecs (P % ell) ++ ecs (Q' % ell) ++ r) = ecs (P % ell) ++ ecs (Q' % ell) := fun r => List.take_left' hl
  have b6 : ∀ a b, List.drop 53 (ecs (P % ell) ++ ecs (Q' % ell) ++ [a, b]) = [b] := fun a b => by
    rw [List.drop_append, hl]
    rw [List.drop_eq_nil_of_le (by omega)]
    rfl
  have b7 : ∀ a b, List.take 53 (ecs (P % ell) ++ ecs (Q' % ell) ++ [a] ++ b) = ecs (P % ell) ++ ecs (Q' % ell) ++ [a] := fun a b => List.take_left' (by rw [List.length_append, hl]; rfl)
  have b8 : ∀ a b, List.drop 54 (ecs (P % ell) ++ ecs (Q' % ell) ++ [a] ++ [b]) = [] := fun a b => List.drop_eq_nil_of_le (by rw [List.length_append, List.length_append, hl]; simp)
  refine run_driveS 80 ?_
  simp only [go_sem, v4, v4_0]
  refine run_drw (by kernel_rfl) ?_
  refine drun_drive 40 (p := (_, _)) ?_
  simp only [go_sem, v4_1, hsk, hlk]
  refine drun_call' ?_
  simp only [go_sem, calV]
  refine line_ _ ?_
  refine drun_drive 40 (p := (_, _)) ?_
  simp only [go_sem]
  refine drun_call' ?_
  simp only [go_sem, calV]
  refine line_ _ ?_
  refine drun_drive 40 (p := (_, _)) ?_
  simp only [go_sem]
  refine drun_call' ?_
  simp only [go_sem, calV, maskH, List.mapIdx_cons, List.mapIdx_nil, List.contains_cons, List.contains_nil, Bool.or_false, Bool.or_true, Bool.false_or, Bool.true_or]
  refine lines_at g nG mG zG hG 0 rfl ?_
  refine drun_drive 40 (p := (_, _)) ?_
  simp only [go_sem, restore, Option.join_some, maskH, List.mapIdx_cons, List.mapIdx_nil, List.contains_cons, List.contains_nil, Bool.or_false, Bool.or_true, Bool.false_or, Bool.true_or]
  refine drun_call' ?_
  simp only [go_sem, calV, maskH, List.mapIdx_cons, List.mapIdx_nil, List.contains_cons, List.contains_nil, Bool.or_false, Bool.or_true, Bool.false_or, Bool.true_or]
  refine lines_at h nH mH zH hH 1 rfl ?_
  refine drun_drive 40 (p := (_, _)) ?_
  simp only [go_sem, b1, b2, b3, b4, restore, Option.join_some, maskH, List.mapIdx_cons, List.mapIdx_nil, List.contains_cons, List.contains_nil, Bool.or_false, Bool.or_true, Bool.false_or, Bool.true_or]
  refine drun_call' ?_
  simp only [go_sem, calV, maskH, List.mapIdx_cons, List.mapIdx_nil, List.contains_cons, List.contains_nil, Bool.or_false, Bool.or_true, Bool.false_or, Bool.true_or]
  refine doc_line _ hP ?_
  refine drun_drive 40 (p := (_, _)) ?_
  simp only [go_sem, restore, Option.join_some, maskH, List.mapIdx_cons, List.mapIdx_nil, List.contains_cons, List.contains_nil, Bool.or_false, Bool.or_true, Bool.false_or, Bool.true_or, Nat.reduceBEq]
  refine drun_call' ?_
  simp only [go_sem, calV, maskH, List.mapIdx_cons, List.mapIdx_nil, List.contains_cons, List.contains_nil, Bool.or_false, Bool.or_true, Bool.false_or, Bool.true_or]
  refine doc_line _ hQ' ?_
  refine drun_drive 40 (p := (_, _)) ?_
  simp only [go_sem, restore, Option.join_some, maskH, List.mapIdx_cons, List.mapIdx_nil, List.contains_cons, List.contains_nil, Bool.or_false, Bool.or_true, Bool.false_or, Bool.true_or, Nat.reduceBEq]
  refine drun_call' ?_
  simp only [go_sem, calV, maskH, List.mapIdx_cons, List.mapIdx_nil, List.contains_cons, List.contains_nil, Bool.or_false, Bool.or_true, Bool.false_or, Bool.true_or]
  refine doc_lines_at g hg nG mG zG hG 0 rfl ?_
  refine drun_drive 40 (p := (_, _)) ?_
  simp only [go_sem, restore, Option.join_some, maskH, List.mapIdx_cons, List.mapIdx_nil, List.contains_cons, List.contains_nil, Bool.or_false, Bool.or_true, Bool.false_or, Bool.true_or, Nat.reduceBEq]
  refine drun_call' ?_
  simp only [go_sem, calV, maskH, List.mapIdx_cons, List.mapIdx_nil, List.contains_cons, List.contains_nil, Bool.or_false, Bool.or_true, Bool.false_or, Bool.true_or]
  refine doc_lines_at h hh nH mH zH hH 1 rfl ?_
  refine drun_drive 40 (p := (_, _)) ?_
  simp only [go_sem, restore, Option.join_some, maskH, List.mapIdx_cons, List.mapIdx_nil, List.contains_cons, List.contains_nil, Bool.or_false, Bool.or_true, Bool.false_or, Bool.true_or, Nat.reduceBEq, de_cells, b5, b6, b7, b8]
  refine drun_end ?_
  refine run_ret_drop Tryz.func4 res4 [0, 1, 2, 3, 4, 5, 6, 10, 11, 12, 13] _ _ rfl (by simp) ?_ ?_ ?_ hQ
  · exact hfit_cons rfl bfit_ivb (hfit_cons rfl bfit_ivb (hfit_cons_none (hfit_cons_none (hfit_cons_none (hfit_cons_none (hfit_cons_none (hfit_cons rfl bfit_sm (hfit_cons rfl bfit_sm (hfit_cons rfl bfit_eb (hfit_cons rfl bfit_eb hfit_nil))))))))))
  · simp [uniq, wrB_ivb, wrB_eb, wrB]
  · simp only [go_sem, rr4, stL_ren, stE_ren, ren, rens, gmap, de_ren, stL, stE, rens_append, lc_rens, ecs_rens, List.append_assoc]
end
end Go.Vs.Tryz
namespace Go.Vs.Tryz
open Go.Proofs
variable {G : Nat → List V}
set_option linter.unusedSimpArgs false
attribute [local go_sem] lenO_nils lenO_sl sliceAtV Int.sub_zero List.length_append List.all_append ge_iff_le gt_iff_lt Int.natCast_nonneg Int.toNat_natCast Nat.mul_one b_and_ll b_shr_ll b_mul_ll b_add_ll b_or_ll b_shl_ll pick_ll pick_lc pick_bb driveS stopV Option.isSome_some Option.isSome_none Kind.m Kind.w Kind.g look_ro look_rw look_grow drive stepV exo expo evs fillV isNil nilKind eqV eqL optA optM sliceAtV ev kn ldc stc splice appV srcV lenV setd wantV exitV rvs rv one List.length_cons List.length_nil List.cons_append List.nil_append List.append_nil List.replicate List.getD_cons_zero List.getD_cons_succ List.set_cons_zero List.set_cons_succ List.getElem?_cons_zero List.getElem?_cons_succ List.getElem?_nil List.take_succ_cons List.take_zero List.take_nil List.drop_succ_cons List.drop_zero List.drop_nil List.all_cons List.all_nil List.any_cons List.any_nil Bool.and_true Bool.true_and Bool.and_self Option.map_some Option.map_none Option.bind_some Option.some.injEq Nat.add_zero Nat.zero_add Int.toNat_zero Int.toNat_one Int.zero_add Int.add_zero if_true if_false ite_true ite_false and_true true_and and_self ne_eq not_false_eq_true not_true_eq_false decide_true decide_false Bool.false_eq_true Bool.not_true Bool.not_false beq_self_eq_true BEq.rfl Bool.not_eq_true Nat.le_refl Int.le_refl Nat.zero_le List.foldl List.map_cons List.map_nil Prod.mk.injEq Int.cast_ofNat_Int Int.zero_le_ofNat b_add_cc b_add_cl b_add_lc b_mul_cc b_mul_cl b_mul_lc b_sub_cc b_sub_cl b_sub_lc b_and_cc b_and_cl b_and_lc b_or_cc b_or_cl b_or_lc b_xor_cc b_xor_cl b_xor_lc b_andNot_cc b_andNot_cl b_andNot_lc b_shr_cc b_shr_cl b_shr_lc b_shl_cc b_shl_cl b_shl_lc b_lss b_leq b_gtr b_geq b_add_i b_sub_i b_mul_i beq_cc beq_cl beq_lc beq_ll b_quo_i b_rem_i neg_u64 wrap_i64 driveD stepD idsAt idOf maskH_nil restore_nil restore_mask List.filterMap_nil List.filterMap_cons VOp.looks VOp.makes exA cells_agg cells_int cells_bool cells_str cells_nilp cells_ptr cells_glob cells_nils cells_sl cells_nilf cells_fn cells_nili cells_ifc known_agg known_tup known_int known_bool known_str known_nilp known_ptr known_glob known_nils known_sl known_nilf known_fn known_nili known_ifc known_unk one_agg one_tup one_int one_bool one_str one_nilp one_ptr one_glob one_nils one_sl one_nilf one_fn one_nili one_ifc asK_int asN_int asB_bool asS_str asG_agg asT_tup true_or or_true false_or or_false
attribute [local go_sem_proc] Nat.reduceAdd Nat.reduceSub Nat.reduceLeDiff Nat.reduceMul Nat.reduceLT Nat.reduceEqDiff Int.reduceLT Int.reduceLE Int.reduceAdd Int.reduceSub Int.reduceMul Int.reduceToNat reduceIte reduceCtorEq Nat.reduceBEq
section
attribute [local go_sem ↓] lc_len lc_take lc_drop lc_known lc_one lc_rens lc_cells lw_known lw_agg lw_asG scs_known scs_one scs_len lc_take_add lc_drop_add
attribute [local go_sem] lt_nat lt_natl lt_lnat lt_ll bool_tf bool_ft
set_option maxRecDepth 100000
set_option maxHeartbeats 1000000
theorem fold_at (hG : G 0 = tbl) (x y m : Nat) (hx : x < 115792089237316195423570985008687907853269984665640564039457584007913129639936) (hy : y < 115792089237316195423570985008687907853269984665640564039457584007913129639936) (hm : 0 < m) (hm2 : m < 1000000) (c : Cap) (hc : c = .grow 4 ∨ ∃ k, c = .exact k ∧ 2 * m ≤ k) (f : Nat → Nat) (hf : ∀ j, f j < 115792089237316195423570985008687907853269984665640564039457584007913129639936) (p : Nat) {h : Heap} {k : Kind} (hk : k.m = true) (hp : h[p]? = some (some ⟨k, scs (2 * m) f⟩)) {R : V → Heap → Prop}
    (hR : R (.sl h.length 0 m (.exact m)) (h ++ [some ⟨.rw, scs m (fe x y m f)⟩])) : VCall Tryz.prog G 45 [lw x, .sl p 0 (2 * m) c, lw y] h R := by
  refine vcall_at (fold_elements hG x y m hx hy hm hm2 c hc f hf (fun v k => v = .sl 1 0 m (.exact m) ∧ k = [some ⟨.ro, scs (2 * m) f⟩, some ⟨.rw, scs m (fe x y m f)⟩]) ⟨rfl, rfl⟩) [p] ?_ (hfit_cons hp (bfit_same (scs_rens _ _ _) hk) hfit_nil) ?_ ?_ ?_
  · intro i hi
    obtain rfl : i = p := by simpa using hi
    exact (List.getElem?_eq_some_iff.1 hp).1
  · simp [uniq, wrB]
  · simp only [rens, ren, lw_plain, gmap]
  · rintro v k ⟨rfl, rfl⟩
    rw [puts_ro (by simp [wrB]) rfl (by simp)]
    simpa [ren, gmap, renB, scs_rens] using hR
theorem st_t8 (P Q : Nat) (r : List V) : List.take 8 (lc P ++ lc Q ++ r) = lc P ++ lc Q := rfl
theorem st_d9 (P Q : Nat) (a b : V) : List.drop 9 (lc P ++ lc Q ++ [a, b]) = [b] := rfl
theorem st_t9 (P Q : Nat) (a : V) (b : List V) : List.take 9 (lc P ++ lc Q ++ [a] ++ b) = lc P ++ lc Q ++ [a] := rfl
theorem st_d10 (P Q : Nat) (a b : V) : List.drop 10 (lc P ++ lc Q ++ [a] ++ [b]) = [] := rfl
theorem st_t10 (P Q : Nat) (a b : V) : List.take 10 (lc P ++ lc Q ++ [a] ++ [b]) = lc P ++ (lc Q ++ [a, b]) := rfl
noncomputable def pf1 (P L R U : Nat) : Nat := ((L * (U * U % ell) % ell + P) % ell + R * (linv U * linv U % ell) % ell) % ell
theorem pf1_lt (P L R U : Nat) : pf1 P L R U < ell := mod_lt' _
theorem folded_ (hG : G 0 = tbl) (P Q' L R U m : Nat) (hP : P < 115792089237316195423570985008687907853269984665640564039457584007913129639936) (hQ' : Q' < 115792089237316195423570985008687907853269984665640564039457584007913129639936) (hL : L < 115792089237316195423570985008687907853269984665640564039457584007913129639936) (hR : R < 115792089237316195423570985008687907853269984665640564039457584007913129639936) (hU : U < 115792089237316195423570985008687907853269984665640564039457584007913129639936) (hm : 0 < m) (hm2 : m < 1000000) (c d : Cap) (hc : c = .grow 4 ∨ ∃ k, c = .exact k ∧ 2 * m ≤ k) (hd : d = .grow 4 ∨ ∃ k, d = .exact k ∧ 2 * m ≤ k) (g h : Nat → Nat) (hg : ∀ j, g j < 115792089237316195423570985008687907853269984665640564039457584007913129639936) (hh : ∀ j, h j < 115792089237316195423570985008687907853269984665640564039457584007913129639936) (Q : V → Heap → Prop)
    (hQ : Q (stL (pf1 P L R U) Q' (.sl 2 0 m (.exact m)) (.sl 3 0 m (.exact m))) [some ⟨.ro, scs (2 * m) g⟩, some ⟨.ro, scs (2 * m) h⟩, some ⟨.rw, scs m (fe (linv U) U m g)⟩, some ⟨.rw, scs m (fe U (linv U) m h)⟩]) :
    VCall Tryz.prog G 29 [stL P Q' (.sl 0 0 (2 * m) c) (.sl 1 0 (2 * m) d), lw L, lw R, lw U] [some ⟨.ro, scs (2 * m) g⟩, some ⟨.ro, scs (2 * m) h⟩] Q := by
  have hl := ell_lt
  have hv : linv U < 115792089237316195423570985008687907853269984665640564039457584007913129639936 := Nat.lt_trans (linv_lt _) ell_lt
  have MSK := @maskH_nil
  refine vcall_body Tryz.func29 nm29 code29 nt29 ?_
  unfold stL
  refine run_driveS 80 ?_
  simp only [go_sem, v29, v29_0, v29_1]
  refine run_call' rfl ?_
  simp only [go_sem, calV]
  refine invert' hG U hU ?_
  refine run_driveS 80 ?_
  simp only [go_sem]
  refine run_drw (by kernel_rfl) ?_
  refine drun_drive 40 (p := (_, _)) ?_
  simp only [go_sem, v29_2]
  refine drun_call' ?_
  simp only [go_sem, calV, restore, Option.join_some, maskH, List.mapIdx_cons, List.mapIdx_nil, List.contains_cons, List.contains_nil, Bool.or_false, Bool.or_true, Bool.false_or, Bool.true_or, Nat.reduceBEq]
  refine mul' hG _ _ hU hU ?_
  refine drun_drive 40 (p := (_, _)) ?_
  simp only [go_sem, restore, Option.join_some, maskH, List.mapIdx_cons, List.mapIdx_nil, List.contains_cons, List.contains_nil, Bool.or_false, Bool.or_true, Bool.false_or, Bool.true_or, Nat.reduceBEq]
  refine drun_call' ?_
  simp only [go_sem, calV, m_times, restore, Option.join_some, maskH, List.mapIdx_cons, List.mapIdx_nil, List.contains_cons, List.contains_nil, Bool.or_false, Bool.or_true, Bool.false_or, Bool.true_or, Nat.reduceBEq]
  refine line_times hG _ _ hL (mod_lt _) ?_
  refine drun_drive 40 (p := (_, _)) ?_
  simp only [go_sem, restore, Option.join_some, maskH, List.mapIdx_cons, List.mapIdx_nil, List.contains_cons, List.contains_nil, Bool.or_false, Bool.or_true, Bool.false_or, Bool.true_or, Nat.reduceBEq]
  refine drun_call' ?_
  simp only [go_sem, calV, m_add, restore, Option.join_some, maskH, List.mapIdx_cons, List.mapIdx_nil, List.contains_cons, List.contains_nil, Bool.or_false, Bool.or_true, Bool.false_or, Bool.true_or, Nat.reduceBEq]
  refine line_add hG _ _ (mod_lt _) hP ?_
  refine drun_drive 40 (p := (_, _)) ?_
  simp only [go_sem, restore, Option.join_some, maskH, List.mapIdx_cons, List.mapIdx_nil, List.contains_cons, List.contains_nil, Bool.or_false, Bool.or_true, Bool.false_or, Bool.true_or, Nat.reduceBEq]
  refine drun_call' ?_
  simp only [go_sem, calV, restore, Option.join_some, maskH, List.mapIdx_cons, List.mapIdx_nil, List.contains_cons, List.contains_nil, Bool.or_false, Bool.or_true, Bool.false_or, Bool.true_or, Nat.reduceBEq]
  refine mul' hG _ _ hv hv ?_
  refine drun_drive 40 (p := (_, _)) ?_
  simp only [go_sem, restore, Option.join_some, maskH, List.mapIdx_cons, List.mapIdx_nil, List.contains_cons, List.contains_nil, Bool.or_false, Bool.or_true, Bool.false_or, Bool.true_or, Nat.reduceBEq]
  refine drun_call' ?_
  simp only [go_sem, calV, m_times, restore, Option.join_some, maskH, List.mapIdx_cons, List.mapIdx_nil, List.contains_cons, List.contains_nil, Bool.or_false, Bool.or_true, Bool.false_or, Bool.true_or, Nat.reduceBEq]
  refine line_times hG _ _ hR (mod_lt _) ?_
  refine drun_drive 40 (p := (_, _)) ?_
  simp only [go_sem, restore, Option.join_some, maskH, List.mapIdx_cons, List.mapIdx_nil, List.contains_cons, List.contains_nil, Bool.or_false, Bool.or_true, Bool.false_or, Bool.true_or, Nat.reduceBEq]
  refine drun_call' ?_
  simp only [go_sem, calV, m_add, restore, Option.join_some, maskH, List.mapIdx_cons, List.mapIdx_nil, List.contains_cons, List.contains_nil, Bool.or_false, Bool.or_true, Bool.false_or, Bool.true_or, Nat.reduceBEq]
  refine line_add hG _ _ (mod_lt _) (mod_lt _) ?_
  rw [show ((L * (U * U % ell) % ell + P) % ell + R * (linv U * linv U % ell) % ell) % ell = pf1 P L R U from rfl]
  refine drun_drive 40 (p := (_, _)) ?_
  simp only [go_sem, restore, Option.join_some, maskH, List.mapIdx_cons, List.mapIdx_nil, List.contains_cons, List.contains_nil, Bool.or_false, Bool.or_true, Bool.false_or, Bool.true_or, Nat.reduceBEq]
  refine drun_call' ?_
  simp only [go_sem, calV, restore, Option.join_some, maskH, List.mapIdx_cons, List.mapIdx_nil, List.contains_cons, List.contains_nil, Bool.or_false, Bool.or_true, Bool.false_or, Bool.true_or, Nat.reduceBEq]
  refine fold_at hG _ _ m hv hU hm hm2 c hc g hg 0 rfl rfl ?_
  refine drun_drive 40 (p := (_, _)) ?_
  simp only [go_sem, restore, Option.join_some, maskH, List.mapIdx_cons, List.mapIdx_nil, List.contains_cons, List.contains_nil, Bool.or_false, Bool.or_true, Bool.false_or, Bool.true_or, Nat.reduceBEq]
  refine drun_call' ?_
  simp only [go_sem, calV, restore, Option.join_some, maskH, List.mapIdx_cons, List.mapIdx_nil, List.contains_cons, List.contains_nil, Bool.or_false, Bool.or_true, Bool.false_or, Bool.true_or, Nat.reduceBEq]
  refine fold_at hG _ _ m hU hv hm hm2 d hd h hh 1 rfl rfl ?_
  refine drun_drive 40 (p := (_, _)) ?_
  simp only [go_sem, st_t8, st_d9, st_t9, st_d10, restore, Option.join_some, maskH, List.mapIdx_cons, List.mapIdx_nil, List.contains_cons, List.contains_nil, Bool.or_false, Bool.or_true, Bool.false_or, Bool.true_or, Nat.reduceBEq]
  refine drun_end ?_
  refine run_driveS 80 ?_
  simp only [go_sem]
  refine run_ret_drop Tryz.func29 res29 [0, 1, 8, 9] (stL (pf1 P L R U) Q' (.sl 2 0 m (.exact m)) (.sl 3 0 m (.exact m))) _ rfl (by simp) ?_ ?_ ?_ hQ
  · simp only [go_sem, hfit, lc_fit, scs_fit, fit, ren, gmap, lw_plain, true_or, or_true]
  · simp [uniq, wrB]
  · simp only [go_sem, rr29, ren, rens, gmap, stL_ren, stL, rens_append, st_t10]
end
section
attribute [local go_sem ↓] lc_len lc_take lc_drop lc_known lc_one lc_rens lc_cells lw_known lw_agg lw_asG scs_known scs_one scs_len lc_take_add lc_drop_add lenO_dv dv_known dv_one dv_ren
attribute [local go_sem] lt_nat lt_natl lt_lnat lt_ll bool_tf bool_ft
set_option maxRecDepth 100000
set_option maxHeartbeats 1000000
theorem fits_dv (hG : G 0 = tbl) (P Q' a b N : Nat) (hN : N ≤ 10) (c1 c2 : Cap) (us : Nat → Nat) (hus : ∀ j, us j < 115792089237316195423570985008687907853269984665640564039457584007913129639936) (hz : ∀ j, j < N → us j % ell ≠ 0) (Q : V → Heap → Prop) (hQ : Q (.int .i64 0) [rob us N, none, none, none, none]) :
    VCall Tryz.prog G 18 [stL P Q' (.sl 1 0 (2 ^ N) c1) (.sl 2 0 (2 ^ N) c2), arL (dv 3 N) (dv 4 N) a b, dv 0 N] [rob us N, none, none, none, none] Q := by
  have hp : 2 ^ N ≤ 2 ^ 10 := Nat.pow_le_pow_right (by decide) hN
  refine vcall_body Tryz.func18 nm18 code18 nt18 ?_
  unfold stL arL
  refine run_driveS 80 ?_
  simp only [go_sem, v18, v18_0, v18_1]
  refine run_call' rfl ?_
  simp only [go_sem, calV]
  refine rounds_ (2 ^ N) (by omega) (fun k hk e => ?_) (fun h => absurd rfl (h N hN))
  obtain rfl : N = k := pow_inj e
  refine run_driveS 80 ?_
  simp only [go_sem, v18_2, eq_int, decide_true]
  refine run_cond_f (by rfl) ?_
  refine run_driveS 80 ?_
  simp only [go_sem, v18_4, v18_12]
  refine run_rename [0, 1, 2, 3, 4] (st' := ⟨[.unk, .unk, dv 0 N] ++ List.replicate 46 .unk ++ [dv 0 N, .int .i64 N, .int .i64 (0 : Nat)] ++ List.replicate 6 .unk, [rob us N, none, none, none, none]⟩) rfl (by simp) ?_ ?_ ?_ (run_for (fun i => ⟨[.unk, .unk, dv 0 N] ++ List.replicate 46 .unk ++ [dv 0 N, .int .i64 N, .int .i64 i] ++ List.replicate 6 .unk, [rob us N, none, none, none, none]⟩) N (fun i hi ih => ?_) ?_)
  · exact hfit_cons rfl (by rcases rob_cases us N with e | e <;> rw [e] <;> first | trivial | exact bfit_same (scs_rens _ _ _)) (hfit_cons rfl trivial (hfit_cons rfl trivial (hfit_cons rfl trivial (hfit_cons rfl trivial hfit_nil))))
  · simp [uniq, wrB]
  · simp only [go_sem, hfit, lc_fit, scs_fit, fit, ren, gmap, lw_plain, true_or, or_true]
  · have h0 : ((i : Int) < (N : Int)) = True := eq_true (by omega)
    have hw : IntKind.i64.wrap ((i : Int) + 1) = ((i + 1 : Nat) : Int) := by rw [wrap_i64 (by omega) (by omega)]; omega
    have hg := scs_get' N us (i := i) (by omega)
    rw [dv_pos (by omega), rob_pos (by omega)] at ih ⊢
    refine run_loop_eq v18_11.eq_1 ?_
    refine run_driveS 80 ?_
    simp only [go_sem, v18_5, v18_9, v18_6, v18_7, h0, hg]
    refine run_call' rfl ?_
    simp only [go_sem, calV]
    refine is_zero' hG _ (hus i) ?_
    refine run_driveS 80 ?_
    simp only [go_sem]
    refine run_cond_f (by simp only [go_sem, decide_eq_false (hz i hi)]) ?_
    refine run_driveS 80 ?_
    simp only [go_sem, v18_10, hw]
    refine run_rename [0, 1, 2, 3, 4] rfl (by simp) ?_ ?_ ?_ (ih)
    · simp only [go_sem, hfit, lc_fit, scs_fit, fit, ren, gmap, lw_plain, true_or, or_true]
    · simp [uniq, wrB]
    · simp only [go_sem, hfit, lc_fit, scs_fit, fit, ren, gmap, lw_plain, true_or, or_true]
  · have h0 : ((N : Int) < (N : Int)) = False := eq_false (by omega)
    refine run_loop_eq v18_11.eq_1 ?_
    refine run_driveS 80 ?_
    simp only [go_sem, v18_5, h0]
    refine run_exit rfl ?_
    refine run_driveS 80 ?_
    simp only [go_sem, v18_13]
    refine run_ret_drop Tryz.func18 res18 [0, 1, 2, 3, 4] (.int .i64 0) _ rfl (by simp) ?_ ?_ ?_ hQ
    · exact hfit_cons rfl (by rcases rob_cases us N with e | e <;> rw [e] <;> first | trivial | exact bfit_same (scs_rens _ _ _)) (hfit_cons rfl trivial (hfit_cons rfl trivial (hfit_cons rfl trivial (hfit_cons rfl trivial hfit_nil))))
    · simp [uniq, wrB]
    · simp only [go_sem, rr18, ren]
end
end Go.Vs.Tryz
