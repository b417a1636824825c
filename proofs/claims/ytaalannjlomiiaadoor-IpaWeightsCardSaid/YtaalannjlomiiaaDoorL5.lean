/- L5: what the functions of the program answer, over the machine of plain values. -/
import Derived.Test.YtaalannjlomiiaaDoorL4
set_option linter.unusedVariables false
set_option linter.unusedSimpArgs false
namespace Go.Vs.Tryd
open Go.Proofs
variable {G : Nat → List V}
set_option linter.unusedSimpArgs false
attribute [local go_sem] sliceAtV Int.sub_zero List.length_append List.all_append ge_iff_le gt_iff_lt Int.natCast_nonneg Int.toNat_natCast Nat.mul_one b_and_ll b_shr_ll b_mul_ll b_add_ll b_or_ll b_shl_ll pick_ll pick_lc pick_bb driveS stopV drive stepV exo expo evs fillV isNil nilKind eqV eqL optA optM sliceAtV ev kn ldc stc splice appV srcV lenV setd wantV exitV rvs rv one List.length_cons List.length_nil List.cons_append List.nil_append List.append_nil List.replicate List.getD_cons_zero List.getD_cons_succ List.set_cons_zero List.set_cons_succ List.getElem?_cons_zero List.getElem?_cons_succ List.getElem?_nil List.take_succ_cons List.take_zero List.take_nil List.drop_succ_cons List.drop_zero List.drop_nil List.all_cons List.all_nil List.any_cons List.any_nil Bool.and_true Bool.true_and Bool.and_self Option.map_some Option.map_none Option.bind_some Option.some.injEq Nat.add_zero Nat.zero_add Int.toNat_zero Int.toNat_one Int.zero_add Int.add_zero if_true if_false ite_true ite_false and_true true_and and_self ne_eq not_false_eq_true not_true_eq_false decide_true decide_false Bool.false_eq_true Bool.not_true Bool.not_false beq_self_eq_true BEq.rfl Bool.not_eq_true Nat.le_refl Int.le_refl Nat.zero_le List.foldl List.map_cons List.map_nil Prod.mk.injEq Int.cast_ofNat_Int Int.zero_le_ofNat b_add_cc b_add_cl b_add_lc b_mul_cc b_mul_cl b_mul_lc b_sub_cc b_sub_cl b_sub_lc b_and_cc b_and_cl b_and_lc b_or_cc b_or_cl b_or_lc b_xor_cc b_xor_cl b_xor_lc b_andNot_cc b_andNot_cl b_andNot_lc b_shr_cc b_shr_cl b_shr_lc b_shl_cc b_shl_cl b_shl_lc b_lss b_leq b_gtr b_geq b_add_i b_sub_i b_mul_i beq_cc beq_cl beq_lc beq_ll b_quo_i b_rem_i neg_u64 wrap_i64 driveD stepD idsAt idOf maskH_nil restore_nil restore_mask List.filterMap_nil List.filterMap_cons VOp.looks VOp.makes exA cells_agg cells_int cells_bool cells_str cells_nilp cells_ptr cells_glob cells_nils cells_sl cells_nilf cells_fn cells_nili cells_ifc known_agg known_tup known_int known_bool known_str known_nilp known_ptr known_glob known_nils known_sl known_nilf known_fn known_nili known_ifc known_unk one_agg one_tup one_int one_bool one_str one_nilp one_ptr one_glob one_nils one_sl one_nilf one_fn one_nili one_ifc asK_int asN_int asB_bool asS_str asG_agg asT_tup
attribute [local go_sem ↓] lc_len lc_take lc_drop lc_known lc_one lc_rens lc_cells lw_known lw_agg lw_asG scs_known scs_one scs_len
attribute [local go_sem] lt_nat lt_natl lt_lnat lt_ll
set_option maxRecDepth 100000
set_option maxHeartbeats 1000000

theorem stays_nil' (f : Nat → Nat) (Q : V → Heap → Prop) (hQ : Q (.bool true) [some ⟨.ro, scs 0 f ++ lc 78⟩]) : VCall Tryd.prog G 9 [.sl 0 0 0 (.exact (0 + 1)), .nils] [some ⟨.ro, scs 0 f ++ lc 78⟩] Q := stays_nil Q hQ
def W3 (f : Nat → Nat) (S : Option Blk) (n : Nat) (v : V) (h : Heap) : Prop :=
  (10 < n ∧ v = .tup [.nils, .int .i64 2] ∧ h = [S]) ∨ (n ≤ 10 ∧ (∃ j, j < n ∧ f j % ell = 0) ∧ v = .tup [.nils, .int .i64 4] ∧ h = [S]) ∨ (n ≤ 10 ∧ (∀ j, j < n → f j % ell ≠ 0) ∧ v = .tup [.sl 1 0 (2 ^ n) (.exact (2 ^ n)), .int .i64 0] ∧ h = [S, some ⟨.rw, scs (2 ^ n) (wf f n)⟩])
theorem weights3 (hG : G 0 = tbl) (f : Nat → Nat) (hf : ∀ j, f j < 115792089237316195423570985008687907853269984665640564039457584007913129639936) (n : Nat) (hn : n ≤ 2100) (cap : Cap) : VCall Tryd.prog G 5 [.sl 0 0 n cap] [some ⟨.ro, scs n f ++ lc 78⟩] (W3 f (some ⟨.ro, scs n f ++ lc 78⟩) n) :=
  weights hG f hf (lc 78) (fun g => lc_rens 78 g) n (by omega) cap _ (fun h => .inl ⟨h, rfl, rfl⟩) (fun h k => .inr (.inl ⟨h, k, rfl, rfl⟩)) (fun h k => .inr (.inr ⟨h, k, rfl, rfl⟩))
def R3 (g : Nat → Nat) (n : Nat) (v : V) (h : Heap) : Prop :=
  (10 < n ∧ v = .tup [.nils, .int .i64 2] ∧ h = [rob g n]) ∨ (n ≤ 10 ∧ (∃ j, j < n ∧ g j = 0) ∧ v = .tup [.nils, .int .i64 4] ∧ h = [rob g n]) ∨ (n ≤ 10 ∧ (∀ j, j < n → g j ≠ 0) ∧ ∃ c, v = .tup [.sl 1 0 (2 ^ n) c, .int .i64 0] ∧ h = [rob g n, some ⟨.ro, scs (2 ^ n) (rg g n n)⟩])
theorem ref_weights3 (g : Nat → Nat) (hg : ∀ j, g j < ell) (n : Nat) (hn : n ≤ 2100) : VCall Tryd.prog G 6 [dv 0 n] [rob g n] (R3 g n) :=
  ref_weights g hg n (by omega) _ (fun h => .inl ⟨h, rfl, rfl⟩) (fun h k => .inr (.inl ⟨h, k, rfl, rfl⟩)) (fun h k c => .inr (.inr ⟨h, k, c, rfl, rfl⟩))
theorem two_pow_lt {n : Nat} (h : n ≤ 10) : 2 ^ n < 1000000 := Nat.lt_of_le_of_lt (Nat.pow_le_pow_right (by decide) h) (by decide)

theorem law_nil (hG : G 0 = tbl) (f : Nat → Nat) (hf : ∀ j, f j < 115792089237316195423570985008687907853269984665640564039457584007913129639936) : VCall Tryd.prog G 3 [.nils] [none] fun v h => v = .bool true ∧ h = [none] := by
  have hft : ∀ g, fit g (scs 0 f ++ lc 78) (scs 0 f ++ lc 78) := fun g => fit_same (by rw [rens_append, scs_rens, lc_rens])
  refine vcall_body Tryd.func3 nm3 code3 nt3 ?_
  refine run_driveS 80 ?_
  simp only [go_sem, Nat.reduceAdd, Nat.reduceSub, Nat.reduceLeDiff, Nat.reduceMul, Nat.reduceLT, Nat.reduceEqDiff, Int.reduceLT, Int.reduceLE, Int.reduceAdd, Int.reduceSub, Int.reduceMul, Int.reduceToNat, reduceIte, reduceCtorEq, Nat.reduceBEq, v3, v3_0, v3_1]
  refine run_call' rfl ?_
  simp only [go_sem, Nat.reduceAdd, Nat.reduceSub, Nat.reduceLeDiff, Nat.reduceMul, Nat.reduceLT, Nat.reduceEqDiff, Int.reduceLT, Int.reduceLE, Int.reduceAdd, Int.reduceSub, Int.reduceMul, Int.reduceToNat, reduceIte, reduceCtorEq, Nat.reduceBEq, calV]
  refine scalars f 0 0 _ _ .nil rfl _ ?_
  refine run_driveS 80 ?_
  simp only [go_sem, Nat.reduceAdd, Nat.reduceSub, Nat.reduceLeDiff, Nat.reduceMul, Nat.reduceLT, Nat.reduceEqDiff, Int.reduceLT, Int.reduceLE, Int.reduceAdd, Int.reduceSub, Int.reduceMul, Int.reduceToNat, reduceIte, reduceCtorEq, Nat.reduceBEq, v3_2]
  refine run_call' rfl ?_
  simp only [go_sem, Nat.reduceAdd, Nat.reduceSub, Nat.reduceLeDiff, Nat.reduceMul, Nat.reduceLT, Nat.reduceEqDiff, Int.reduceLT, Int.reduceLE, Int.reduceAdd, Int.reduceSub, Int.reduceMul, Int.reduceToNat, reduceIte, reduceCtorEq, Nat.reduceBEq, calV]
  refine vcall_at (weights3 hG f hf 0 (by omega) (.exact (0 + 1))) [1] (by simp) ?_ ?_ ?_ ?_
  · simp only [go_sem, Nat.reduceAdd, Nat.reduceSub, Nat.reduceLeDiff, Nat.reduceMul, Nat.reduceLT, Nat.reduceEqDiff, Int.reduceLT, Int.reduceLE, Int.reduceAdd, Int.reduceSub, Int.reduceMul, Int.reduceToNat, reduceIte, reduceCtorEq, Nat.reduceBEq, hfit, lc_fit, scs_fit, fit, ren, gmap, lw_plain, true_or, or_true, hft]
  · simp [uniq, wrB]
  · simp only [go_sem, Nat.reduceAdd, Nat.reduceSub, Nat.reduceLeDiff, Nat.reduceMul, Nat.reduceLT, Nat.reduceEqDiff, Int.reduceLT, Int.reduceLE, Int.reduceAdd, Int.reduceSub, Int.reduceMul, Int.reduceToNat, reduceIte, reduceCtorEq, Nat.reduceBEq, ren, rens, gmap]
  rintro v h'' (⟨e, rfl, rfl⟩ | ⟨e, he, rfl, rfl⟩ | ⟨e, he, rfl, rfl⟩)
  · omega
  · obtain ⟨j, hj, _⟩ := he; omega
  · simp only [go_sem, Nat.reduceAdd, Nat.reduceSub, Nat.reduceLeDiff, Nat.reduceMul, Nat.reduceLT, Nat.reduceEqDiff, Int.reduceLT, Int.reduceLE, Int.reduceAdd, Int.reduceSub, Int.reduceMul, Int.reduceToNat, reduceIte, reduceCtorEq, Nat.reduceBEq, ren, rens, gmap, puts, wrB, Bool.false_eq_true, if_false, renB, scs_rens, rens_append, Option.map_some, Option.map_none]
    refine run_driveS 80 ?_
    simp only [go_sem, Nat.reduceAdd, Nat.reduceSub, Nat.reduceLeDiff, Nat.reduceMul, Nat.reduceLT, Nat.reduceEqDiff, Int.reduceLT, Int.reduceLE, Int.reduceAdd, Int.reduceSub, Int.reduceMul, Int.reduceToNat, reduceIte, reduceCtorEq, Nat.reduceBEq, v3_3]
    refine run_call' rfl ?_
    simp only [go_sem, Nat.reduceAdd, Nat.reduceSub, Nat.reduceLeDiff, Nat.reduceMul, Nat.reduceLT, Nat.reduceEqDiff, Int.reduceLT, Int.reduceLE, Int.reduceAdd, Int.reduceSub, Int.reduceMul, Int.reduceToNat, reduceIte, reduceCtorEq, Nat.reduceBEq, calV]
    refine vcall_at (doc_scalars f hf 0 0 _ _ .nil rfl (fun v h => v = dv 1 0 ∧ h = [none, db (fun j => f j % ell) 0]) ⟨rfl, rfl⟩) [0] (by simp) ?_ ?_ ?_ ?_
    · simp only [go_sem, Nat.reduceAdd, Nat.reduceSub, Nat.reduceLeDiff, Nat.reduceMul, Nat.reduceLT, Nat.reduceEqDiff, Int.reduceLT, Int.reduceLE, Int.reduceAdd, Int.reduceSub, Int.reduceMul, Int.reduceToNat, reduceIte, reduceCtorEq, Nat.reduceBEq, hfit, lc_fit, scs_fit, fit, ren, gmap, lw_plain, true_or, or_true]
    · simp [uniq, wrB]
    · simp only [go_sem, Nat.reduceAdd, Nat.reduceSub, Nat.reduceLeDiff, Nat.reduceMul, Nat.reduceLT, Nat.reduceEqDiff, Int.reduceLT, Int.reduceLE, Int.reduceAdd, Int.reduceSub, Int.reduceMul, Int.reduceToNat, reduceIte, reduceCtorEq, Nat.reduceBEq, ren, rens, gmap]
    rintro v h'' ⟨rfl, rfl⟩
    rw [show dv 1 0 = .nils from rfl, show db (fun j => f j % ell) 0 = none from rfl]
    simp only [go_sem, Nat.reduceAdd, Nat.reduceSub, Nat.reduceLeDiff, Nat.reduceMul, Nat.reduceLT, Nat.reduceEqDiff, Int.reduceLT, Int.reduceLE, Int.reduceAdd, Int.reduceSub, Int.reduceMul, Int.reduceToNat, reduceIte, reduceCtorEq, Nat.reduceBEq, ren, rens, gmap, puts, wrB, Bool.false_eq_true, if_false, if_true, renB, scs_rens, Option.map_some, Option.map_none]
    refine run_driveS 80 ?_
    simp only [go_sem, Nat.reduceAdd, Nat.reduceSub, Nat.reduceLeDiff, Nat.reduceMul, Nat.reduceLT, Nat.reduceEqDiff, Int.reduceLT, Int.reduceLE, Int.reduceAdd, Int.reduceSub, Int.reduceMul, Int.reduceToNat, reduceIte, reduceCtorEq, Nat.reduceBEq]
    refine run_call' rfl ?_
    simp only [go_sem, Nat.reduceAdd, Nat.reduceSub, Nat.reduceLeDiff, Nat.reduceMul, Nat.reduceLT, Nat.reduceEqDiff, Int.reduceLT, Int.reduceLE, Int.reduceAdd, Int.reduceSub, Int.reduceMul, Int.reduceToNat, reduceIte, reduceCtorEq, Nat.reduceBEq, calV]
    refine vcall_at (ref_weights3 (fun j => f j % ell) (fun j => mod_lt' _) 0 (by omega)) [3] (by simp) ?_ ?_ ?_ ?_
    · rw [rob_zero]
      simp only [go_sem, Nat.reduceAdd, Nat.reduceSub, Nat.reduceLeDiff, Nat.reduceMul, Nat.reduceLT, Nat.reduceEqDiff, Int.reduceLT, Int.reduceLE, Int.reduceAdd, Int.reduceSub, Int.reduceMul, Int.reduceToNat, reduceIte, reduceCtorEq, Nat.reduceBEq, hfit, lc_fit, scs_fit, fit, ren, gmap, lw_plain, true_or, or_true]
    · simp [uniq, wrB]
    · rw [show dv 0 0 = .nils from rfl]
      simp only [go_sem, Nat.reduceAdd, Nat.reduceSub, Nat.reduceLeDiff, Nat.reduceMul, Nat.reduceLT, Nat.reduceEqDiff, Int.reduceLT, Int.reduceLE, Int.reduceAdd, Int.reduceSub, Int.reduceMul, Int.reduceToNat, reduceIte, reduceCtorEq, Nat.reduceBEq, ren, rens, gmap]
    rintro v h'' (⟨e1, rfl, rfl⟩ | ⟨e1, e2, rfl, rfl⟩ | ⟨e1, e2, c, rfl, rfl⟩)
    · exact absurd e1 (by omega)
    · obtain ⟨j, hj, hz⟩ := e2; exact absurd hz (he j hj)
    · rw [rob_zero]
      simp only [go_sem, Nat.reduceAdd, Nat.reduceSub, Nat.reduceLeDiff, Nat.reduceMul, Nat.reduceLT, Nat.reduceEqDiff, Int.reduceLT, Int.reduceLE, Int.reduceAdd, Int.reduceSub, Int.reduceMul, Int.reduceToNat, reduceIte, reduceCtorEq, Nat.reduceBEq, ren, rens, gmap, puts, wrB, Bool.false_eq_true, if_false, if_true, renB, scs_rens, Option.map_some, Option.map_none]
      refine run_driveS 80 ?_
      simp only [go_sem, Nat.reduceAdd, Nat.reduceSub, Nat.reduceLeDiff, Nat.reduceMul, Nat.reduceLT, Nat.reduceEqDiff, Int.reduceLT, Int.reduceLE, Int.reduceAdd, Int.reduceSub, Int.reduceMul, Int.reduceToNat, reduceIte, reduceCtorEq, Nat.reduceBEq, v3_4]
      refine run_call' rfl ?_
      simp only [go_sem, Nat.reduceAdd, Nat.reduceSub, Nat.reduceLeDiff, Nat.reduceMul, Nat.reduceLT, Nat.reduceEqDiff, Int.reduceLT, Int.reduceLE, Int.reduceAdd, Int.reduceSub, Int.reduceMul, Int.reduceToNat, reduceIte, reduceCtorEq, Nat.reduceBEq, calV]
      refine vcall_at (is_scalars (wf f 0) (rg (fun j => f j % ell) 0 0) (2 ^ 0) (two_pow_lt (by omega)) (.exact (2 ^ 0)) c (fun j => Nat.lt_trans (wf_lt _ _ _) ell_lt) (fun j => Nat.lt_trans (rg_lt _ _ _ _) ell_lt) (fun j hj => wf_rg f 0 j hj) (Q := fun v h => v = .bool true ∧ h = [some ⟨.ro, scs (2 ^ 0) (wf f 0)⟩, some ⟨.ro, scs (2 ^ 0) (rg (fun j => f j % ell) 0 0)⟩]) ⟨rfl, rfl⟩) [2, 4] (by simp) ?_ ?_ ?_ ?_
      · simp only [go_sem, Nat.reduceAdd, Nat.reduceSub, Nat.reduceLeDiff, Nat.reduceMul, Nat.reduceLT, Nat.reduceEqDiff, Int.reduceLT, Int.reduceLE, Int.reduceAdd, Int.reduceSub, Int.reduceMul, Int.reduceToNat, reduceIte, reduceCtorEq, Nat.reduceBEq, hfit, lc_fit, scs_fit, fit, ren, gmap, lw_plain, true_or, or_true]
      · simp [uniq, wrB]
      · simp only [go_sem, Nat.reduceAdd, Nat.reduceSub, Nat.reduceLeDiff, Nat.reduceMul, Nat.reduceLT, Nat.reduceEqDiff, Int.reduceLT, Int.reduceLE, Int.reduceAdd, Int.reduceSub, Int.reduceMul, Int.reduceToNat, reduceIte, reduceCtorEq, Nat.reduceBEq, ren, rens, gmap]
      rintro v h'' ⟨rfl, rfl⟩
      simp only [go_sem, Nat.reduceAdd, Nat.reduceSub, Nat.reduceLeDiff, Nat.reduceMul, Nat.reduceLT, Nat.reduceEqDiff, Int.reduceLT, Int.reduceLE, Int.reduceAdd, Int.reduceSub, Int.reduceMul, Int.reduceToNat, reduceIte, reduceCtorEq, Nat.reduceBEq, ren, rens, gmap, puts, wrB, Bool.false_eq_true, if_false, if_true, renB, scs_rens, Option.map_some, Option.map_none]
      refine run_driveS 80 ?_
      simp only [go_sem, Nat.reduceAdd, Nat.reduceSub, Nat.reduceLeDiff, Nat.reduceMul, Nat.reduceLT, Nat.reduceEqDiff, Int.reduceLT, Int.reduceLE, Int.reduceAdd, Int.reduceSub, Int.reduceMul, Int.reduceToNat, reduceIte, reduceCtorEq, Nat.reduceBEq]
      refine run_call' rfl ?_
      simp only [go_sem, Nat.reduceAdd, Nat.reduceSub, Nat.reduceLeDiff, Nat.reduceMul, Nat.reduceLT, Nat.reduceEqDiff, Int.reduceLT, Int.reduceLE, Int.reduceAdd, Int.reduceSub, Int.reduceMul, Int.reduceToNat, reduceIte, reduceCtorEq, Nat.reduceBEq, calV]
      refine vcall_at (stays_nil' f (fun v h => v = .bool true ∧ h = [some ⟨.ro, scs 0 f ++ lc 78⟩]) ⟨rfl, rfl⟩) [1] (by simp) ?_ ?_ ?_ ?_
      · simp only [go_sem, Nat.reduceAdd, Nat.reduceSub, Nat.reduceLeDiff, Nat.reduceMul, Nat.reduceLT, Nat.reduceEqDiff, Int.reduceLT, Int.reduceLE, Int.reduceAdd, Int.reduceSub, Int.reduceMul, Int.reduceToNat, reduceIte, reduceCtorEq, Nat.reduceBEq, hfit, lc_fit, scs_fit, fit, ren, gmap, lw_plain, true_or, or_true, hft]
      · simp [uniq, wrB]
      · simp only [go_sem, Nat.reduceAdd, Nat.reduceSub, Nat.reduceLeDiff, Nat.reduceMul, Nat.reduceLT, Nat.reduceEqDiff, Int.reduceLT, Int.reduceLE, Int.reduceAdd, Int.reduceSub, Int.reduceMul, Int.reduceToNat, reduceIte, reduceCtorEq, Nat.reduceBEq, ren, rens, gmap]
      rintro v h'' ⟨rfl, rfl⟩
      simp only [go_sem, Nat.reduceAdd, Nat.reduceSub, Nat.reduceLeDiff, Nat.reduceMul, Nat.reduceLT, Nat.reduceEqDiff, Int.reduceLT, Int.reduceLE, Int.reduceAdd, Int.reduceSub, Int.reduceMul, Int.reduceToNat, reduceIte, reduceCtorEq, Nat.reduceBEq, ren, rens, gmap, puts, wrB, Bool.false_eq_true, if_false, if_true, renB, scs_rens, Option.map_some, Option.map_none]
      refine run_driveS 80 ?_
      simp only [go_sem, Nat.reduceAdd, Nat.reduceSub, Nat.reduceLeDiff, Nat.reduceMul, Nat.reduceLT, Nat.reduceEqDiff, Int.reduceLT, Int.reduceLE, Int.reduceAdd, Int.reduceSub, Int.reduceMul, Int.reduceToNat, reduceIte, reduceCtorEq, Nat.reduceBEq]
      refine run_ret_drop Tryd.func3 res3 [0] (.bool true) [none] rfl (by simp) ?_ ?_ ?_ ⟨rfl, rfl⟩
      · simp only [go_sem, Nat.reduceAdd, Nat.reduceSub, Nat.reduceLeDiff, Nat.reduceMul, Nat.reduceLT, Nat.reduceEqDiff, Int.reduceLT, Int.reduceLE, Int.reduceAdd, Int.reduceSub, Int.reduceMul, Int.reduceToNat, reduceIte, reduceCtorEq, Nat.reduceBEq, hfit, lc_fit, scs_fit, fit, ren, gmap, lw_plain, true_or, or_true]
      · simp [uniq, wrB]
      · simp only [go_sem, Nat.reduceAdd, Nat.reduceSub, Nat.reduceLeDiff, Nat.reduceMul, Nat.reduceLT, Nat.reduceEqDiff, Int.reduceLT, Int.reduceLE, Int.reduceAdd, Int.reduceSub, Int.reduceMul, Int.reduceToNat, reduceIte, reduceCtorEq, Nat.reduceBEq, r3, ren, gmap]

theorem law_zero (hG : G 0 = tbl) (f : Nat → Nat) (hf : ∀ j, f j < 115792089237316195423570985008687907853269984665640564039457584007913129639936) (N m : Nat) (hm : N ≤ m) (h0 : 0 = min N 2100) : VCall Tryd.prog G 3 [.sl 0 0 N (.exact m)] [some ⟨.ro, scs N f⟩] fun v h => v = .bool true ∧ h = [some ⟨.ro, scs N f⟩] := by
  have hft : ∀ g, fit g (scs 0 f ++ lc 78) (scs 0 f ++ lc 78) := fun g => fit_same (by rw [rens_append, scs_rens, lc_rens])
  refine vcall_body Tryd.func3 nm3 code3 nt3 ?_
  refine run_driveS 80 ?_
  simp only [go_sem, Nat.reduceAdd, Nat.reduceSub, Nat.reduceLeDiff, Nat.reduceMul, Nat.reduceLT, Nat.reduceEqDiff, Int.reduceLT, Int.reduceLE, Int.reduceAdd, Int.reduceSub, Int.reduceMul, Int.reduceToNat, reduceIte, reduceCtorEq, Nat.reduceBEq, v3, v3_0, v3_1]
  refine run_call' rfl ?_
  simp only [go_sem, Nat.reduceAdd, Nat.reduceSub, Nat.reduceLeDiff, Nat.reduceMul, Nat.reduceLT, Nat.reduceEqDiff, Int.reduceLT, Int.reduceLE, Int.reduceAdd, Int.reduceSub, Int.reduceMul, Int.reduceToNat, reduceIte, reduceCtorEq, Nat.reduceBEq, calV]
  refine scalars f N 0 _ _ (.sl N m hm) h0 _ ?_
  refine run_driveS 80 ?_
  simp only [go_sem, Nat.reduceAdd, Nat.reduceSub, Nat.reduceLeDiff, Nat.reduceMul, Nat.reduceLT, Nat.reduceEqDiff, Int.reduceLT, Int.reduceLE, Int.reduceAdd, Int.reduceSub, Int.reduceMul, Int.reduceToNat, reduceIte, reduceCtorEq, Nat.reduceBEq, v3_2]
  refine run_call' rfl ?_
  simp only [go_sem, Nat.reduceAdd, Nat.reduceSub, Nat.reduceLeDiff, Nat.reduceMul, Nat.reduceLT, Nat.reduceEqDiff, Int.reduceLT, Int.reduceLE, Int.reduceAdd, Int.reduceSub, Int.reduceMul, Int.reduceToNat, reduceIte, reduceCtorEq, Nat.reduceBEq, calV]
  refine vcall_at (weights3 hG f hf 0 (by omega) (.exact (0 + 1))) [1] (by simp) ?_ ?_ ?_ ?_
  · simp only [go_sem, Nat.reduceAdd, Nat.reduceSub, Nat.reduceLeDiff, Nat.reduceMul, Nat.reduceLT, Nat.reduceEqDiff, Int.reduceLT, Int.reduceLE, Int.reduceAdd, Int.reduceSub, Int.reduceMul, Int.reduceToNat, reduceIte, reduceCtorEq, Nat.reduceBEq, hfit, lc_fit, scs_fit, fit, ren, gmap, lw_plain, true_or, or_true, hft]
  · simp [uniq, wrB]
  · simp only [go_sem, Nat.reduceAdd, Nat.reduceSub, Nat.reduceLeDiff, Nat.reduceMul, Nat.reduceLT, Nat.reduceEqDiff, Int.reduceLT, Int.reduceLE, Int.reduceAdd, Int.reduceSub, Int.reduceMul, Int.reduceToNat, reduceIte, reduceCtorEq, Nat.reduceBEq, ren, rens, gmap]
  rintro v h'' (⟨e, rfl, rfl⟩ | ⟨e, he, rfl, rfl⟩ | ⟨e, he, rfl, rfl⟩)
  · omega
  · obtain ⟨j, hj, _⟩ := he; omega
  · simp only [go_sem, Nat.reduceAdd, Nat.reduceSub, Nat.reduceLeDiff, Nat.reduceMul, Nat.reduceLT, Nat.reduceEqDiff, Int.reduceLT, Int.reduceLE, Int.reduceAdd, Int.reduceSub, Int.reduceMul, Int.reduceToNat, reduceIte, reduceCtorEq, Nat.reduceBEq, ren, rens, gmap, puts, wrB, Bool.false_eq_true, if_false, renB, scs_rens, rens_append, Option.map_some, Option.map_none]
    refine run_driveS 80 ?_
    simp only [go_sem, Nat.reduceAdd, Nat.reduceSub, Nat.reduceLeDiff, Nat.reduceMul, Nat.reduceLT, Nat.reduceEqDiff, Int.reduceLT, Int.reduceLE, Int.reduceAdd, Int.reduceSub, Int.reduceMul, Int.reduceToNat, reduceIte, reduceCtorEq, Nat.reduceBEq, v3_3]
    refine run_call' rfl ?_
    simp only [go_sem, Nat.reduceAdd, Nat.reduceSub, Nat.reduceLeDiff, Nat.reduceMul, Nat.reduceLT, Nat.reduceEqDiff, Int.reduceLT, Int.reduceLE, Int.reduceAdd, Int.reduceSub, Int.reduceMul, Int.reduceToNat, reduceIte, reduceCtorEq, Nat.reduceBEq, calV]
    refine vcall_at (doc_scalars f hf N 0 _ _ (.sl N m hm) h0 (fun v h => v = dv 1 0 ∧ h = [some ⟨.ro, scs N f⟩, db (fun j => f j % ell) 0]) ⟨rfl, rfl⟩) [0] (by simp) ?_ ?_ ?_ ?_
    · simp only [go_sem, Nat.reduceAdd, Nat.reduceSub, Nat.reduceLeDiff, Nat.reduceMul, Nat.reduceLT, Nat.reduceEqDiff, Int.reduceLT, Int.reduceLE, Int.reduceAdd, Int.reduceSub, Int.reduceMul, Int.reduceToNat, reduceIte, reduceCtorEq, Nat.reduceBEq, hfit, lc_fit, scs_fit, fit, ren, gmap, lw_plain, true_or, or_true]
    · simp [uniq, wrB]
    · simp only [go_sem, Nat.reduceAdd, Nat.reduceSub, Nat.reduceLeDiff, Nat.reduceMul, Nat.reduceLT, Nat.reduceEqDiff, Int.reduceLT, Int.reduceLE, Int.reduceAdd, Int.reduceSub, Int.reduceMul, Int.reduceToNat, reduceIte, reduceCtorEq, Nat.reduceBEq, ren, rens, gmap]
    rintro v h'' ⟨rfl, rfl⟩
    rw [show dv 1 0 = .nils from rfl, show db (fun j => f j % ell) 0 = none from rfl]
    simp only [go_sem, Nat.reduceAdd, Nat.reduceSub, Nat.reduceLeDiff, Nat.reduceMul, Nat.reduceLT, Nat.reduceEqDiff, Int.reduceLT, Int.reduceLE, Int.reduceAdd, Int.reduceSub, Int.reduceMul, Int.reduceToNat, reduceIte, reduceCtorEq, Nat.reduceBEq, ren, rens, gmap, puts, wrB, Bool.false_eq_true, if_false, if_true, renB, scs_rens, Option.map_some, Option.map_none]
    refine run_driveS 80 ?_
    simp only [go_sem, Nat.reduceAdd, Nat.reduceSub, Nat.reduceLeDiff, Nat.reduceMul, Nat.reduceLT, Nat.reduceEqDiff, Int.reduceLT, Int.reduceLE, Int.reduceAdd, Int.reduceSub, Int.reduceMul, Int.reduceToNat, reduceIte, reduceCtorEq, Nat.reduceBEq]
    refine run_call' rfl ?_
    simp only [go_sem, Nat.reduceAdd, Nat.reduceSub, Nat.reduceLeDiff, Nat.reduceMul, Nat.reduceLT, Nat.reduceEqDiff, Int.reduceLT, Int.reduceLE, Int.reduceAdd, Int.reduceSub, Int.reduceMul, Int.reduceToNat, reduceIte, reduceCtorEq, Nat.reduceBEq, calV]
    refine vcall_at (ref_weights3 (fun j => f j % ell) (fun j => mod_lt' _) 0 (by omega)) [3] (by simp) ?_ ?_ ?_ ?_
    · rw [rob_zero]
      simp only [go_sem, Nat.reduceAdd, Nat.reduceSub, Nat.reduceLeDiff, Nat.reduceMul, Nat.reduceLT, Nat.reduceEqDiff, Int.reduceLT, Int.reduceLE, Int.reduceAdd, Int.reduceSub, Int.reduceMul, Int.reduceToNat, reduceIte, reduceCtorEq, Nat.reduceBEq, hfit, lc_fit, scs_fit, fit, ren, gmap, lw_plain, true_or, or_true]
    · simp [uniq, wrB]
    · rw [show dv 0 0 = .nils from rfl]
      simp only [go_sem, Nat.reduceAdd, Nat.reduceSub, Nat.reduceLeDiff, Nat.reduceMul, Nat.reduceLT, Nat.reduceEqDiff, Int.reduceLT, Int.reduceLE, Int.reduceAdd, Int.reduceSub, Int.reduceMul, Int.reduceToNat, reduceIte, reduceCtorEq, Nat.reduceBEq, ren, rens, gmap]
    rintro v h'' (⟨e1, rfl, rfl⟩ | ⟨e1, e2, rfl, rfl⟩ | ⟨e1, e2, c, rfl, rfl⟩)
    · exact absurd e1 (by omega)
    · obtain ⟨j, hj, hz⟩ := e2; exact absurd hz (he j hj)
    · rw [rob_zero]
      simp only [go_sem, Nat.reduceAdd, Nat.reduceSub, Nat.reduceLeDiff, Nat.reduceMul, Nat.reduceLT, Nat.reduceEqDiff, Int.reduceLT, Int.reduceLE, Int.reduceAdd, Int.reduceSub, Int.reduceMul, Int.reduceToNat, reduceIte, reduceCtorEq, Nat.reduceBEq, ren, rens, gmap, puts, wrB, Bool.false_eq_true, if_false, if_true, renB, scs_rens, Option.map_some, Option.map_none]
      refine run_driveS 80 ?_
      simp only [go_sem, Nat.reduceAdd, Nat.reduceSub, Nat.reduceLeDiff, Nat.reduceMul, Nat.reduceLT, Nat.reduceEqDiff, Int.reduceLT, Int.reduceLE, Int.reduceAdd, Int.reduceSub, Int.reduceMul, Int.reduceToNat, reduceIte, reduceCtorEq, Nat.reduceBEq, v3_4]
      refine run_call' rfl ?_
      simp only [go_sem, Nat.reduceAdd, Nat.reduceSub, Nat.reduceLeDiff, Nat.reduceMul, Nat.reduceLT, Nat.reduceEqDiff, Int.reduceLT, Int.reduceLE, Int.reduceAdd, Int.reduceSub, Int.reduceMul, Int.reduceToNat, reduceIte, reduceCtorEq, Nat.reduceBEq, calV]
      refine vcall_at (is_scalars (wf f 0) (rg (fun j => f j % ell) 0 0) (2 ^ 0) (two_pow_lt (by omega)) (.exact (2 ^ 0)) c (fun j => Nat.lt_trans (wf_lt _ _ _) ell_lt) (fun j => Nat.lt_trans (rg_lt _ _ _ _) ell_lt) (fun j hj => wf_rg f 0 j hj) (Q := fun v h => v = .bool true ∧ h = [some ⟨.ro, scs (2 ^ 0) (wf f 0)⟩, some ⟨.ro, scs (2 ^ 0) (rg (fun j => f j % ell) 0 0)⟩]) ⟨rfl, rfl⟩) [2, 4] (by simp) ?_ ?_ ?_ ?_
      · simp only [go_sem, Nat.reduceAdd, Nat.reduceSub, Nat.reduceLeDiff, Nat.reduceMul, Nat.reduceLT, Nat.reduceEqDiff, Int.reduceLT, Int.reduceLE, Int.reduceAdd, Int.reduceSub, Int.reduceMul, Int.reduceToNat, reduceIte, reduceCtorEq, Nat.reduceBEq, hfit, lc_fit, scs_fit, fit, ren, gmap, lw_plain, true_or, or_true]
      · simp [uniq, wrB]
      · simp only [go_sem, Nat.reduceAdd, Nat.reduceSub, Nat.reduceLeDiff, Nat.reduceMul, Nat.reduceLT, Nat.reduceEqDiff, Int.reduceLT, Int.reduceLE, Int.reduceAdd, Int.reduceSub, Int.reduceMul, Int.reduceToNat, reduceIte, reduceCtorEq, Nat.reduceBEq, ren, rens, gmap]
      rintro v h'' ⟨rfl, rfl⟩
      simp only [go_sem, Nat.reduceAdd, Nat.reduceSub, Nat.reduceLeDiff, Nat.reduceMul, Nat.reduceLT, Nat.reduceEqDiff, Int.reduceLT, Int.reduceLE, Int.reduceAdd, Int.reduceSub, Int.reduceMul, Int.reduceToNat, reduceIte, reduceCtorEq, Nat.reduceBEq, ren, rens, gmap, puts, wrB, Bool.false_eq_true, if_false, if_true, renB, scs_rens, Option.map_some, Option.map_none]
      refine run_driveS 80 ?_
      simp only [go_sem, Nat.reduceAdd, Nat.reduceSub, Nat.reduceLeDiff, Nat.reduceMul, Nat.reduceLT, Nat.reduceEqDiff, Int.reduceLT, Int.reduceLE, Int.reduceAdd, Int.reduceSub, Int.reduceMul, Int.reduceToNat, reduceIte, reduceCtorEq, Nat.reduceBEq]
      refine run_call' rfl ?_
      simp only [go_sem, Nat.reduceAdd, Nat.reduceSub, Nat.reduceLeDiff, Nat.reduceMul, Nat.reduceLT, Nat.reduceEqDiff, Int.reduceLT, Int.reduceLE, Int.reduceAdd, Int.reduceSub, Int.reduceMul, Int.reduceToNat, reduceIte, reduceCtorEq, Nat.reduceBEq, calV]
      refine vcall_at (stays f hf N 0 m hm h0 (fun v h => v = .bool true ∧ h = [some ⟨.ro, scs 0 f ++ lc 78⟩, some ⟨.ro, scs N f⟩]) ⟨rfl, rfl⟩) [1, 0] (by simp) ?_ ?_ ?_ ?_
      · simp only [go_sem, Nat.reduceAdd, Nat.reduceSub, Nat.reduceLeDiff, Nat.reduceMul, Nat.reduceLT, Nat.reduceEqDiff, Int.reduceLT, Int.reduceLE, Int.reduceAdd, Int.reduceSub, Int.reduceMul, Int.reduceToNat, reduceIte, reduceCtorEq, Nat.reduceBEq, hfit, lc_fit, scs_fit, fit, ren, gmap, lw_plain, true_or, or_true, hft]
      · simp [uniq, wrB]
      · simp only [go_sem, Nat.reduceAdd, Nat.reduceSub, Nat.reduceLeDiff, Nat.reduceMul, Nat.reduceLT, Nat.reduceEqDiff, Int.reduceLT, Int.reduceLE, Int.reduceAdd, Int.reduceSub, Int.reduceMul, Int.reduceToNat, reduceIte, reduceCtorEq, Nat.reduceBEq, ren, rens, gmap]
      rintro v h'' ⟨rfl, rfl⟩
      simp only [go_sem, Nat.reduceAdd, Nat.reduceSub, Nat.reduceLeDiff, Nat.reduceMul, Nat.reduceLT, Nat.reduceEqDiff, Int.reduceLT, Int.reduceLE, Int.reduceAdd, Int.reduceSub, Int.reduceMul, Int.reduceToNat, reduceIte, reduceCtorEq, Nat.reduceBEq, ren, rens, gmap, puts, wrB, Bool.false_eq_true, if_false, if_true, renB, scs_rens, Option.map_some, Option.map_none]
      refine run_driveS 80 ?_
      simp only [go_sem, Nat.reduceAdd, Nat.reduceSub, Nat.reduceLeDiff, Nat.reduceMul, Nat.reduceLT, Nat.reduceEqDiff, Int.reduceLT, Int.reduceLE, Int.reduceAdd, Int.reduceSub, Int.reduceMul, Int.reduceToNat, reduceIte, reduceCtorEq, Nat.reduceBEq]
      refine run_ret_drop Tryd.func3 res3 [0] (.bool true) [some ⟨.ro, scs N f⟩] rfl (by simp) ?_ ?_ ?_ ⟨rfl, rfl⟩
      · simp only [go_sem, Nat.reduceAdd, Nat.reduceSub, Nat.reduceLeDiff, Nat.reduceMul, Nat.reduceLT, Nat.reduceEqDiff, Int.reduceLT, Int.reduceLE, Int.reduceAdd, Int.reduceSub, Int.reduceMul, Int.reduceToNat, reduceIte, reduceCtorEq, Nat.reduceBEq, hfit, lc_fit, scs_fit, fit, ren, gmap, lw_plain, true_or, or_true]
      · simp [uniq, wrB]
      · simp only [go_sem, Nat.reduceAdd, Nat.reduceSub, Nat.reduceLeDiff, Nat.reduceMul, Nat.reduceLT, Nat.reduceEqDiff, Int.reduceLT, Int.reduceLE, Int.reduceAdd, Int.reduceSub, Int.reduceMul, Int.reduceToNat, reduceIte, reduceCtorEq, Nat.reduceBEq, r3, ren, gmap]

theorem law_pos (hG : G 0 = tbl) (f : Nat → Nat) (hf : ∀ j, f j < 115792089237316195423570985008687907853269984665640564039457584007913129639936) (N m : Nat) (hm : N ≤ m) (n : Nat) (hn : n = min N 2100) (h0 : 0 < n) : VCall Tryd.prog G 3 [.sl 0 0 N (.exact m)] [some ⟨.ro, scs N f⟩] fun v h => v = .bool true ∧ h = [some ⟨.ro, scs N f⟩] := by
  have hft : ∀ g, fit g (scs n f ++ lc 78) (scs n f ++ lc 78) := fun g => fit_same (by rw [rens_append, scs_rens, lc_rens])
  refine vcall_body Tryd.func3 nm3 code3 nt3 ?_
  refine run_driveS 80 ?_
  simp only [go_sem, Nat.reduceAdd, Nat.reduceSub, Nat.reduceLeDiff, Nat.reduceMul, Nat.reduceLT, Nat.reduceEqDiff, Int.reduceLT, Int.reduceLE, Int.reduceAdd, Int.reduceSub, Int.reduceMul, Int.reduceToNat, reduceIte, reduceCtorEq, Nat.reduceBEq, v3, v3_0, v3_1]
  refine run_call' rfl ?_
  simp only [go_sem, Nat.reduceAdd, Nat.reduceSub, Nat.reduceLeDiff, Nat.reduceMul, Nat.reduceLT, Nat.reduceEqDiff, Int.reduceLT, Int.reduceLE, Int.reduceAdd, Int.reduceSub, Int.reduceMul, Int.reduceToNat, reduceIte, reduceCtorEq, Nat.reduceBEq, calV]
  refine scalars f N n _ _ (.sl N m hm) hn _ ?_
  refine run_driveS 80 ?_
  simp only [go_sem, Nat.reduceAdd, Nat.reduceSub, Nat.reduceLeDiff, Nat.reduceMul, Nat.reduceLT, Nat.reduceEqDiff, Int.reduceLT, Int.reduceLE, Int.reduceAdd, Int.reduceSub, Int.reduceMul, Int.reduceToNat, reduceIte, reduceCtorEq, Nat.reduceBEq, v3_2]
  refine run_call' rfl ?_
  simp only [go_sem, Nat.reduceAdd, Nat.reduceSub, Nat.reduceLeDiff, Nat.reduceMul, Nat.reduceLT, Nat.reduceEqDiff, Int.reduceLT, Int.reduceLE, Int.reduceAdd, Int.reduceSub, Int.reduceMul, Int.reduceToNat, reduceIte, reduceCtorEq, Nat.reduceBEq, calV]
  refine vcall_at (weights3 hG f hf n (by omega) (.exact (n + 1))) [1] (by simp) ?_ ?_ ?_ ?_
  · simp only [go_sem, Nat.reduceAdd, Nat.reduceSub, Nat.reduceLeDiff, Nat.reduceMul, Nat.reduceLT, Nat.reduceEqDiff, Int.reduceLT, Int.reduceLE, Int.reduceAdd, Int.reduceSub, Int.reduceMul, Int.reduceToNat, reduceIte, reduceCtorEq, Nat.reduceBEq, hfit, lc_fit, scs_fit, fit, ren, gmap, lw_plain, true_or, or_true, hft]
  · simp [uniq, wrB]
  · simp only [go_sem, Nat.reduceAdd, Nat.reduceSub, Nat.reduceLeDiff, Nat.reduceMul, Nat.reduceLT, Nat.reduceEqDiff, Int.reduceLT, Int.reduceLE, Int.reduceAdd, Int.reduceSub, Int.reduceMul, Int.reduceToNat, reduceIte, reduceCtorEq, Nat.reduceBEq, ren, rens, gmap]
  rintro v h'' (⟨e, rfl, rfl⟩ | ⟨e, he, rfl, rfl⟩ | ⟨e, he, rfl, rfl⟩)
  · simp only [go_sem, Nat.reduceAdd, Nat.reduceSub, Nat.reduceLeDiff, Nat.reduceMul, Nat.reduceLT, Nat.reduceEqDiff, Int.reduceLT, Int.reduceLE, Int.reduceAdd, Int.reduceSub, Int.reduceMul, Int.reduceToNat, reduceIte, reduceCtorEq, Nat.reduceBEq, ren, rens, gmap, puts, wrB, Bool.false_eq_true, if_false, renB, scs_rens, rens_append, Option.map_some, Option.map_none]
    refine run_driveS 80 ?_
    simp only [go_sem, Nat.reduceAdd, Nat.reduceSub, Nat.reduceLeDiff, Nat.reduceMul, Nat.reduceLT, Nat.reduceEqDiff, Int.reduceLT, Int.reduceLE, Int.reduceAdd, Int.reduceSub, Int.reduceMul, Int.reduceToNat, reduceIte, reduceCtorEq, Nat.reduceBEq, v3_3]
    refine run_call' rfl ?_
    simp only [go_sem, Nat.reduceAdd, Nat.reduceSub, Nat.reduceLeDiff, Nat.reduceMul, Nat.reduceLT, Nat.reduceEqDiff, Int.reduceLT, Int.reduceLE, Int.reduceAdd, Int.reduceSub, Int.reduceMul, Int.reduceToNat, reduceIte, reduceCtorEq, Nat.reduceBEq, calV]
    refine vcall_at (doc_scalars f hf N n _ _ (.sl N m hm) hn (fun v h => v = dv 1 n ∧ h = [some ⟨.ro, scs N f⟩, db (fun j => f j % ell) n]) ⟨rfl, rfl⟩) [0] (by simp) ?_ ?_ ?_ ?_
    · simp only [go_sem, Nat.reduceAdd, Nat.reduceSub, Nat.reduceLeDiff, Nat.reduceMul, Nat.reduceLT, Nat.reduceEqDiff, Int.reduceLT, Int.reduceLE, Int.reduceAdd, Int.reduceSub, Int.reduceMul, Int.reduceToNat, reduceIte, reduceCtorEq, Nat.reduceBEq, hfit, lc_fit, scs_fit, fit, ren, gmap, lw_plain, true_or, or_true]
    · simp [uniq, wrB]
    · simp only [go_sem, Nat.reduceAdd, Nat.reduceSub, Nat.reduceLeDiff, Nat.reduceMul, Nat.reduceLT, Nat.reduceEqDiff, Int.reduceLT, Int.reduceLE, Int.reduceAdd, Int.reduceSub, Int.reduceMul, Int.reduceToNat, reduceIte, reduceCtorEq, Nat.reduceBEq, ren, rens, gmap]
    rintro v h'' ⟨rfl, rfl⟩
    rw [dv_pos h0, db_pos h0]
    simp only [go_sem, Nat.reduceAdd, Nat.reduceSub, Nat.reduceLeDiff, Nat.reduceMul, Nat.reduceLT, Nat.reduceEqDiff, Int.reduceLT, Int.reduceLE, Int.reduceAdd, Int.reduceSub, Int.reduceMul, Int.reduceToNat, reduceIte, reduceCtorEq, Nat.reduceBEq, ren, rens, gmap, puts, wrB, Bool.false_eq_true, if_false, if_true, renB, scs_rens, Option.map_some, Option.map_none]
    refine run_driveS 80 ?_
    simp only [go_sem, Nat.reduceAdd, Nat.reduceSub, Nat.reduceLeDiff, Nat.reduceMul, Nat.reduceLT, Nat.reduceEqDiff, Int.reduceLT, Int.reduceLE, Int.reduceAdd, Int.reduceSub, Int.reduceMul, Int.reduceToNat, reduceIte, reduceCtorEq, Nat.reduceBEq]
    refine run_call' rfl ?_
    simp only [go_sem, Nat.reduceAdd, Nat.reduceSub, Nat.reduceLeDiff, Nat.reduceMul, Nat.reduceLT, Nat.reduceEqDiff, Int.reduceLT, Int.reduceLE, Int.reduceAdd, Int.reduceSub, Int.reduceMul, Int.reduceToNat, reduceIte, reduceCtorEq, Nat.reduceBEq, calV]
    refine vcall_at (ref_weights3 (fun j => f j % ell) (fun j => mod_lt' _) n (by omega)) [2] (by simp) ?_ ?_ ?_ ?_
    · rw [rob_pos h0]
      simp only [go_sem, Nat.reduceAdd, Nat.reduceSub, Nat.reduceLeDiff, Nat.reduceMul, Nat.reduceLT, Nat.reduceEqDiff, Int.reduceLT, Int.reduceLE, Int.reduceAdd, Int.reduceSub, Int.reduceMul, Int.reduceToNat, reduceIte, reduceCtorEq, Nat.reduceBEq, hfit, lc_fit, scs_fit, fit, ren, gmap, lw_plain, true_or, or_true]
    · simp [uniq, wrB]
    · rw [dv_pos h0]
      simp only [go_sem, Nat.reduceAdd, Nat.reduceSub, Nat.reduceLeDiff, Nat.reduceMul, Nat.reduceLT, Nat.reduceEqDiff, Int.reduceLT, Int.reduceLE, Int.reduceAdd, Int.reduceSub, Int.reduceMul, Int.reduceToNat, reduceIte, reduceCtorEq, Nat.reduceBEq, ren, rens, gmap]
    rintro v h'' (⟨e1, rfl, rfl⟩ | ⟨e1, e2, rfl, rfl⟩ | ⟨e1, e2, c, rfl, rfl⟩)
    · rw [rob_pos h0]
      simp only [go_sem, Nat.reduceAdd, Nat.reduceSub, Nat.reduceLeDiff, Nat.reduceMul, Nat.reduceLT, Nat.reduceEqDiff, Int.reduceLT, Int.reduceLE, Int.reduceAdd, Int.reduceSub, Int.reduceMul, Int.reduceToNat, reduceIte, reduceCtorEq, Nat.reduceBEq, ren, rens, gmap, puts, wrB, Bool.false_eq_true, if_false, if_true, renB, scs_rens, Option.map_some, Option.map_none]
      refine run_driveS 80 ?_
      simp only [go_sem, Nat.reduceAdd, Nat.reduceSub, Nat.reduceLeDiff, Nat.reduceMul, Nat.reduceLT, Nat.reduceEqDiff, Int.reduceLT, Int.reduceLE, Int.reduceAdd, Int.reduceSub, Int.reduceMul, Int.reduceToNat, reduceIte, reduceCtorEq, Nat.reduceBEq, v3_4]
      refine run_call' rfl ?_
      simp only [go_sem, Nat.reduceAdd, Nat.reduceSub, Nat.reduceLeDiff, Nat.reduceMul, Nat.reduceLT, Nat.reduceEqDiff, Int.reduceLT, Int.reduceLE, Int.reduceAdd, Int.reduceSub, Int.reduceMul, Int.reduceToNat, reduceIte, reduceCtorEq, Nat.reduceBEq, calV]
      refine iss_nil ?_
      refine run_driveS 80 ?_
      simp only [go_sem, Nat.reduceAdd, Nat.reduceSub, Nat.reduceLeDiff, Nat.reduceMul, Nat.reduceLT, Nat.reduceEqDiff, Int.reduceLT, Int.reduceLE, Int.reduceAdd, Int.reduceSub, Int.reduceMul, Int.reduceToNat, reduceIte, reduceCtorEq, Nat.reduceBEq]
      refine run_call' rfl ?_
      simp only [go_sem, Nat.reduceAdd, Nat.reduceSub, Nat.reduceLeDiff, Nat.reduceMul, Nat.reduceLT, Nat.reduceEqDiff, Int.reduceLT, Int.reduceLE, Int.reduceAdd, Int.reduceSub, Int.reduceMul, Int.reduceToNat, reduceIte, reduceCtorEq, Nat.reduceBEq, calV]
      refine vcall_at (stays f hf N n m hm hn (fun v h => v = .bool true ∧ h = [some ⟨.ro, scs n f ++ lc 78⟩, some ⟨.ro, scs N f⟩]) ⟨rfl, rfl⟩) [1, 0] (by simp) ?_ ?_ ?_ ?_
      · simp only [go_sem, Nat.reduceAdd, Nat.reduceSub, Nat.reduceLeDiff, Nat.reduceMul, Nat.reduceLT, Nat.reduceEqDiff, Int.reduceLT, Int.reduceLE, Int.reduceAdd, Int.reduceSub, Int.reduceMul, Int.reduceToNat, reduceIte, reduceCtorEq, Nat.reduceBEq, hfit, lc_fit, scs_fit, fit, ren, gmap, lw_plain, true_or, or_true, hft]
      · simp [uniq, wrB]
      · simp only [go_sem, Nat.reduceAdd, Nat.reduceSub, Nat.reduceLeDiff, Nat.reduceMul, Nat.reduceLT, Nat.reduceEqDiff, Int.reduceLT, Int.reduceLE, Int.reduceAdd, Int.reduceSub, Int.reduceMul, Int.reduceToNat, reduceIte, reduceCtorEq, Nat.reduceBEq, ren, rens, gmap]
      rintro v h'' ⟨rfl, rfl⟩
      simp only [go_sem, Nat.reduceAdd, Nat.reduceSub, Nat.reduceLeDiff, Nat.reduceMul, Nat.reduceLT, Nat.reduceEqDiff, Int.reduceLT, Int.reduceLE, Int.reduceAdd, Int.reduceSub, Int.reduceMul, Int.reduceToNat, reduceIte, reduceCtorEq, Nat.reduceBEq, ren, rens, gmap, puts, wrB, Bool.false_eq_true, if_false, if_true, renB, scs_rens, Option.map_some, Option.map_none]
      refine run_driveS 80 ?_
      simp only [go_sem, Nat.reduceAdd, Nat.reduceSub, Nat.reduceLeDiff, Nat.reduceMul, Nat.reduceLT, Nat.reduceEqDiff, Int.reduceLT, Int.reduceLE, Int.reduceAdd, Int.reduceSub, Int.reduceMul, Int.reduceToNat, reduceIte, reduceCtorEq, Nat.reduceBEq]
      refine run_ret_drop Tryd.func3 res3 [0] (.bool true) [some ⟨.ro, scs N f⟩] rfl (by simp) ?_ ?_ ?_ ⟨rfl, rfl⟩
      · simp only [go_sem, Nat.reduceAdd, Nat.reduceSub, Nat.reduceLeDiff, Nat.reduceMul, Nat.reduceLT, Nat.reduceEqDiff, Int.reduceLT, Int.reduceLE, Int.reduceAdd, Int.reduceSub, Int.reduceMul, Int.reduceToNat, reduceIte, reduceCtorEq, Nat.reduceBEq, hfit, lc_fit, scs_fit, fit, ren, gmap, lw_plain, true_or, or_true]
      · simp [uniq, wrB]
      · simp only [go_sem, Nat.reduceAdd, Nat.reduceSub, Nat.reduceLeDiff, Nat.reduceMul, Nat.reduceLT, Nat.reduceEqDiff, Int.reduceLT, Int.reduceLE, Int.reduceAdd, Int.reduceSub, Int.reduceMul, Int.reduceToNat, reduceIte, reduceCtorEq, Nat.reduceBEq, r3, ren, gmap]
    · exact absurd e1 (by omega)
    · exact absurd e1 (by omega)
  · simp only [go_sem, Nat.reduceAdd, Nat.reduceSub, Nat.reduceLeDiff, Nat.reduceMul, Nat.reduceLT, Nat.reduceEqDiff, Int.reduceLT, Int.reduceLE, Int.reduceAdd, Int.reduceSub, Int.reduceMul, Int.reduceToNat, reduceIte, reduceCtorEq, Nat.reduceBEq, ren, rens, gmap, puts, wrB, Bool.false_eq_true, if_false, renB, scs_rens, rens_append, Option.map_some, Option.map_none]
    refine run_driveS 80 ?_
    simp only [go_sem, Nat.reduceAdd, Nat.reduceSub, Nat.reduceLeDiff, Nat.reduceMul, Nat.reduceLT, Nat.reduceEqDiff, Int.reduceLT, Int.reduceLE, Int.reduceAdd, Int.reduceSub, Int.reduceMul, Int.reduceToNat, reduceIte, reduceCtorEq, Nat.reduceBEq, v3_3]
    refine run_call' rfl ?_
    simp only [go_sem, Nat.reduceAdd, Nat.reduceSub, Nat.reduceLeDiff, Nat.reduceMul, Nat.reduceLT, Nat.reduceEqDiff, Int.reduceLT, Int.reduceLE, Int.reduceAdd, Int.reduceSub, Int.reduceMul, Int.reduceToNat, reduceIte, reduceCtorEq, Nat.reduceBEq, calV]
    refine vcall_at (doc_scalars f hf N n _ _ (.sl N m hm) hn (fun v h => v = dv 1 n ∧ h = [some ⟨.ro, scs N f⟩, db (fun j => f j % ell) n]) ⟨rfl, rfl⟩) [0] (by simp) ?_ ?_ ?_ ?_
    · simp only [go_sem, Nat.reduceAdd, Nat.reduceSub, Nat.reduceLeDiff, Nat.reduceMul, Nat.reduceLT, Nat.reduceEqDiff, Int.reduceLT, Int.reduceLE, Int.reduceAdd, Int.reduceSub, Int.reduceMul, Int.reduceToNat, reduceIte, reduceCtorEq, Nat.reduceBEq, hfit, lc_fit, scs_fit, fit, ren, gmap, lw_plain, true_or, or_true]
    · simp [uniq, wrB]
    · simp only [go_sem, Nat.reduceAdd, Nat.reduceSub, Nat.reduceLeDiff, Nat.reduceMul, Nat.reduceLT, Nat.reduceEqDiff, Int.reduceLT, Int.reduceLE, Int.reduceAdd, Int.reduceSub, Int.reduceMul, Int.reduceToNat, reduceIte, reduceCtorEq, Nat.reduceBEq, ren, rens, gmap]
    rintro v h'' ⟨rfl, rfl⟩
    rw [dv_pos h0, db_pos h0]
    simp only [go_sem, Nat.reduceAdd, Nat.reduceSub, Nat.reduceLeDiff, Nat.reduceMul, Nat.reduceLT, Nat.reduceEqDiff, Int.reduceLT, Int.reduceLE, Int.reduceAdd, Int.reduceSub, Int.reduceMul, Int.reduceToNat, reduceIte, reduceCtorEq, Nat.reduceBEq, ren, rens, gmap, puts, wrB, Bool.false_eq_true, if_false, if_true, renB, scs_rens, Option.map_some, Option.map_none]
    refine run_driveS 80 ?_
    simp only [go_sem, Nat.reduceAdd, Nat.reduceSub, Nat.reduceLeDiff, Nat.reduceMul, Nat.reduceLT, Nat.reduceEqDiff, Int.reduceLT, Int.reduceLE, Int.reduceAdd, Int.reduceSub, Int.reduceMul, Int.reduceToNat, reduceIte, reduceCtorEq, Nat.reduceBEq]
    refine run_call' rfl ?_
    simp only [go_sem, Nat.reduceAdd, Nat.reduceSub, Nat.reduceLeDiff, Nat.reduceMul, Nat.reduceLT, Nat.reduceEqDiff, Int.reduceLT, Int.reduceLE, Int.reduceAdd, Int.reduceSub, Int.reduceMul, Int.reduceToNat, reduceIte, reduceCtorEq, Nat.reduceBEq, calV]
    refine vcall_at (ref_weights3 (fun j => f j % ell) (fun j => mod_lt' _) n (by omega)) [2] (by simp) ?_ ?_ ?_ ?_
    · rw [rob_pos h0]
      simp only [go_sem, Nat.reduceAdd, Nat.reduceSub, Nat.reduceLeDiff, Nat.reduceMul, Nat.reduceLT, Nat.reduceEqDiff, Int.reduceLT, Int.reduceLE, Int.reduceAdd, Int.reduceSub, Int.reduceMul, Int.reduceToNat, reduceIte, reduceCtorEq, Nat.reduceBEq, hfit, lc_fit, scs_fit, fit, ren, gmap, lw_plain, true_or, or_true]
    · simp [uniq, wrB]
    · rw [dv_pos h0]
      simp only [go_sem, Nat.reduceAdd, Nat.reduceSub, Nat.reduceLeDiff, Nat.reduceMul, Nat.reduceLT, Nat.reduceEqDiff, Int.reduceLT, Int.reduceLE, Int.reduceAdd, Int.reduceSub, Int.reduceMul, Int.reduceToNat, reduceIte, reduceCtorEq, Nat.reduceBEq, ren, rens, gmap]
    rintro v h'' (⟨e1, rfl, rfl⟩ | ⟨e1, e2, rfl, rfl⟩ | ⟨e1, e2, c, rfl, rfl⟩)
    · exact absurd e1 (by omega)
    · rw [rob_pos h0]
      simp only [go_sem, Nat.reduceAdd, Nat.reduceSub, Nat.reduceLeDiff, Nat.reduceMul, Nat.reduceLT, Nat.reduceEqDiff, Int.reduceLT, Int.reduceLE, Int.reduceAdd, Int.reduceSub, Int.reduceMul, Int.reduceToNat, reduceIte, reduceCtorEq, Nat.reduceBEq, ren, rens, gmap, puts, wrB, Bool.false_eq_true, if_false, if_true, renB, scs_rens, Option.map_some, Option.map_none]
      refine run_driveS 80 ?_
      simp only [go_sem, Nat.reduceAdd, Nat.reduceSub, Nat.reduceLeDiff, Nat.reduceMul, Nat.reduceLT, Nat.reduceEqDiff, Int.reduceLT, Int.reduceLE, Int.reduceAdd, Int.reduceSub, Int.reduceMul, Int.reduceToNat, reduceIte, reduceCtorEq, Nat.reduceBEq, v3_4]
      refine run_call' rfl ?_
      simp only [go_sem, Nat.reduceAdd, Nat.reduceSub, Nat.reduceLeDiff, Nat.reduceMul, Nat.reduceLT, Nat.reduceEqDiff, Int.reduceLT, Int.reduceLE, Int.reduceAdd, Int.reduceSub, Int.reduceMul, Int.reduceToNat, reduceIte, reduceCtorEq, Nat.reduceBEq, calV]
      refine iss_nil ?_
      refine run_driveS 80 ?_
      simp only [go_sem, Nat.reduceAdd, Nat.reduceSub, Nat.reduceLeDiff, Nat.reduceMul, Nat.reduceLT, Nat.reduceEqDiff, Int.reduceLT, Int.reduceLE, Int.reduceAdd, Int.reduceSub, Int.reduceMul, Int.reduceToNat, reduceIte, reduceCtorEq, Nat.reduceBEq]
      refine run_call' rfl ?_
      simp only [go_sem, Nat.reduceAdd, Nat.reduceSub, Nat.reduceLeDiff, Nat.reduceMul, Nat.reduceLT, Nat.reduceEqDiff, Int.reduceLT, Int.reduceLE, Int.reduceAdd, Int.reduceSub, Int.reduceMul, Int.reduceToNat, reduceIte, reduceCtorEq, Nat.reduceBEq, calV]
      refine vcall_at (stays f hf N n m hm hn (fun v h => v = .bool true ∧ h = [some ⟨.ro, scs n f ++ lc 78⟩, some ⟨.ro, scs N f⟩]) ⟨rfl, rfl⟩) [1, 0] (by simp) ?_ ?_ ?_ ?_
      · simp only [go_sem, Nat.reduceAdd, Nat.reduceSub, Nat.reduceLeDiff, Nat.reduceMul, Nat.reduceLT, Nat.reduceEqDiff, Int.reduceLT, Int.reduceLE, Int.reduceAdd, Int.reduceSub, Int.reduceMul, Int.reduceToNat, reduceIte, reduceCtorEq, Nat.reduceBEq, hfit, lc_fit, scs_fit, fit, ren, gmap, lw_plain, true_or, or_true, hft]
      · simp [uniq, wrB]
      · simp only [go_sem, Nat.reduceAdd, Nat.reduceSub, Nat.reduceLeDiff, Nat.reduceMul, Nat.reduceLT, Nat.reduceEqDiff, Int.reduceLT, Int.reduceLE, Int.reduceAdd, Int.reduceSub, Int.reduceMul, Int.reduceToNat, reduceIte, reduceCtorEq, Nat.reduceBEq, ren, rens, gmap]
      rintro v h'' ⟨rfl, rfl⟩
      simp only [go_sem, Nat.reduceAdd, Nat.reduceSub, Nat.reduceLeDiff, Nat.reduceMul, Nat.reduceLT, Nat.reduceEqDiff, Int.reduceLT, Int.reduceLE, Int.reduceAdd, Int.reduceSub, Int.reduceMul, Int.reduceToNat, reduceIte, reduceCtorEq, Nat.reduceBEq, ren, rens, gmap, puts, wrB, Bool.false_eq_true, if_false, if_true, renB, scs_rens, Option.map_some, Option.map_none]
      refine run_driveS 80 ?_
      simp only [go_sem, Nat.reduceAdd, Nat.reduceSub, Nat.reduceLeDiff, Nat.reduceMul, Nat.reduceLT, Nat.reduceEqDiff, Int.reduceLT, Int.reduceLE, Int.reduceAdd, Int.reduceSub, Int.reduceMul, Int.reduceToNat, reduceIte, reduceCtorEq, Nat.reduceBEq]
      refine run_ret_drop Tryd.func3 res3 [0] (.bool true) [some ⟨.ro, scs N f⟩] rfl (by simp) ?_ ?_ ?_ ⟨rfl, rfl⟩
      · simp only [go_sem, Nat.reduceAdd, Nat.reduceSub, Nat.reduceLeDiff, Nat.reduceMul, Nat.reduceLT, Nat.reduceEqDiff, Int.reduceLT, Int.reduceLE, Int.reduceAdd, Int.reduceSub, Int.reduceMul, Int.reduceToNat, reduceIte, reduceCtorEq, Nat.reduceBEq, hfit, lc_fit, scs_fit, fit, ren, gmap, lw_plain, true_or, or_true]
      · simp [uniq, wrB]
      · simp only [go_sem, Nat.reduceAdd, Nat.reduceSub, Nat.reduceLeDiff, Nat.reduceMul, Nat.reduceLT, Nat.reduceEqDiff, Int.reduceLT, Int.reduceLE, Int.reduceAdd, Int.reduceSub, Int.reduceMul, Int.reduceToNat, reduceIte, reduceCtorEq, Nat.reduceBEq, r3, ren, gmap]
    · obtain ⟨j, hj, hz⟩ := he; exact absurd hz (e2 j hj)
  · simp only [go_sem, Nat.reduceAdd, Nat.reduceSub, Nat.reduceLeDiff, Nat.reduceMul, Nat.reduceLT, Nat.reduceEqDiff, Int.reduceLT, Int.reduceLE, Int.reduceAdd, Int.reduceSub, Int.reduceMul, Int.reduceToNat, reduceIte, reduceCtorEq, Nat.reduceBEq, ren, rens, gmap, puts, wrB, Bool.false_eq_true, if_false, renB, scs_rens, rens_append, Option.map_some, Option.map_none]
    refine run_driveS 80 ?_
    simp only [go_sem, Nat.reduceAdd, Nat.reduceSub, Nat.reduceLeDiff, Nat.reduceMul, Nat.reduceLT, Nat.reduceEqDiff, Int.reduceLT, Int.reduceLE, Int.reduceAdd, Int.reduceSub, Int.reduceMul, Int.reduceToNat, reduceIte, reduceCtorEq, Nat.reduceBEq, v3_3]
    refine run_call' rfl ?_
    simp only [go_sem, Nat.reduceAdd, Nat.reduceSub, Nat.reduceLeDiff, Nat.reduceMul, Nat.reduceLT, Nat.reduceEqDiff, Int.reduceLT, Int.reduceLE, Int.reduceAdd, Int.reduceSub, Int.reduceMul, Int.reduceToNat, reduceIte, reduceCtorEq, Nat.reduceBEq, calV]
    refine vcall_at (doc_scalars f hf N n _ _ (.sl N m hm) hn (fun v h => v = dv 1 n ∧ h = [some ⟨.ro, scs N f⟩, db (fun j => f j % ell) n]) ⟨rfl, rfl⟩) [0] (by simp) ?_ ?_ ?_ ?_
    · simp only [go_sem, Nat.reduceAdd, Nat.reduceSub, Nat.reduceLeDiff, Nat.reduceMul, Nat.reduceLT, Nat.reduceEqDiff, Int.reduceLT, Int.reduceLE, Int.reduceAdd, Int.reduceSub, Int.reduceMul, Int.reduceToNat, reduceIte, reduceCtorEq, Nat.reduceBEq, hfit, lc_fit, scs_fit, fit, ren, gmap, lw_plain, true_or, or_true]
    · simp [uniq, wrB]
    · simp only [go_sem, Nat.reduceAdd, Nat.reduceSub, Nat.reduceLeDiff, Nat.reduceMul, Nat.reduceLT, Nat.reduceEqDiff, Int.reduceLT, Int.reduceLE, Int.reduceAdd, Int.reduceSub, Int.reduceMul, Int.reduceToNat, reduceIte, reduceCtorEq, Nat.reduceBEq, ren, rens, gmap]
    rintro v h'' ⟨rfl, rfl⟩
    rw [dv_pos h0, db_pos h0]
    simp only [go_sem, Nat.reduceAdd, Nat.reduceSub, Nat.reduceLeDiff, Nat.reduceMul, Nat.reduceLT, Nat.reduceEqDiff, Int.reduceLT, Int.reduceLE, Int.reduceAdd, Int.reduceSub, Int.reduceMul, Int.reduceToNat, reduceIte, reduceCtorEq, Nat.reduceBEq, ren, rens, gmap, puts, wrB, Bool.false_eq_true, if_false, if_true, renB, scs_rens, Option.map_some, Option.map_none]
    refine run_driveS 80 ?_
    simp only [go_sem, Nat.reduceAdd, Nat.reduceSub, Nat.reduceLeDiff, Nat.reduceMul, Nat.reduceLT, Nat.reduceEqDiff, Int.reduceLT, Int.reduceLE, Int.reduceAdd, Int.reduceSub, Int.reduceMul, Int.reduceToNat, reduceIte, reduceCtorEq, Nat.reduceBEq]
    refine run_call' rfl ?_
    simp only [go_sem, Nat.reduceAdd, Nat.reduceSub, Nat.reduceLeDiff, Nat.reduceMul, Nat.reduceLT, Nat.reduceEqDiff, Int.reduceLT, Int.reduceLE, Int.reduceAdd, Int.reduceSub, Int.reduceMul, Int.reduceToNat, reduceIte, reduceCtorEq, Nat.reduceBEq, calV]
    refine vcall_at (ref_weights3 (fun j => f j % ell) (fun j => mod_lt' _) n (by omega)) [3] (by simp) ?_ ?_ ?_ ?_
    · rw [rob_pos h0]
      simp only [go_sem, Nat.reduceAdd, Nat.reduceSub, Nat.reduceLeDiff, Nat.reduceMul, Nat.reduceLT, Nat.reduceEqDiff, Int.reduceLT, Int.reduceLE, Int.reduceAdd, Int.reduceSub, Int.reduceMul, Int.reduceToNat, reduceIte, reduceCtorEq, Nat.reduceBEq, hfit, lc_fit, scs_fit, fit, ren, gmap, lw_plain, true_or, or_true]
    · simp [uniq, wrB]
    · rw [dv_pos h0]
      simp only [go_sem, Nat.reduceAdd, Nat.reduceSub, Nat.reduceLeDiff, Nat.reduceMul, Nat.reduceLT, Nat.reduceEqDiff, Int.reduceLT, Int.reduceLE, Int.reduceAdd, Int.reduceSub, Int.reduceMul, Int.reduceToNat, reduceIte, reduceCtorEq, Nat.reduceBEq, ren, rens, gmap]
    rintro v h'' (⟨e1, rfl, rfl⟩ | ⟨e1, e2, rfl, rfl⟩ | ⟨e1, e2, c, rfl, rfl⟩)
    · exact absurd e1 (by omega)
    · obtain ⟨j, hj, hz⟩ := e2; exact absurd hz (he j hj)
    · rw [rob_pos h0]
      simp only [go_sem, Nat.reduceAdd, Nat.reduceSub, Nat.reduceLeDiff, Nat.reduceMul, Nat.reduceLT, Nat.reduceEqDiff, Int.reduceLT, Int.reduceLE, Int.reduceAdd, Int.reduceSub, Int.reduceMul, Int.reduceToNat, reduceIte, reduceCtorEq, Nat.reduceBEq, ren, rens, gmap, puts, wrB, Bool.false_eq_true, if_false, if_true, renB, scs_rens, Option.map_some, Option.map_none]
      refine run_driveS 80 ?_
      simp only [go_sem, Nat.reduceAdd, Nat.reduceSub, Nat.reduceLeDiff, Nat.reduceMul, Nat.reduceLT, Nat.reduceEqDiff, Int.reduceLT, Int.reduceLE, Int.reduceAdd, Int.reduceSub, Int.reduceMul, Int.reduceToNat, reduceIte, reduceCtorEq, Nat.reduceBEq, v3_4]
      refine run_call' rfl ?_
      simp only [go_sem, Nat.reduceAdd, Nat.reduceSub, Nat.reduceLeDiff, Nat.reduceMul, Nat.reduceLT, Nat.reduceEqDiff, Int.reduceLT, Int.reduceLE, Int.reduceAdd, Int.reduceSub, Int.reduceMul, Int.reduceToNat, reduceIte, reduceCtorEq, Nat.reduceBEq, calV]
      refine vcall_at (is_scalars (wf f n) (rg (fun j => f j % ell) n n) (2 ^ n) (two_pow_lt (by omega)) (.exact (2 ^ n)) c (fun j => Nat.lt_trans (wf_lt _ _ _) ell_lt) (fun j => Nat.lt_trans (rg_lt _ _ _ _) ell_lt) (fun j hj => wf_rg f n j hj) (Q := fun v h => v = .bool true ∧ h = [some ⟨.ro, scs (2 ^ n) (wf f n)⟩, some ⟨.ro, scs (2 ^ n) (rg (fun j => f j % ell) n n)⟩]) ⟨rfl, rfl⟩) [2, 4] (by simp) ?_ ?_ ?_ ?_
      · simp only [go_sem, Nat.reduceAdd, Nat.reduceSub, Nat.reduceLeDiff, Nat.reduceMul, Nat.reduceLT, Nat.reduceEqDiff, Int.reduceLT, Int.reduceLE, Int.reduceAdd, Int.reduceSub, Int.reduceMul, Int.reduceToNat, reduceIte, reduceCtorEq, Nat.reduceBEq, hfit, lc_fit, scs_fit, fit, ren, gmap, lw_plain, true_or, or_true]
      · simp [uniq, wrB]
      · simp only [go_sem, Nat.reduceAdd, Nat.reduceSub, Nat.reduceLeDiff, Nat.reduceMul, Nat.reduceLT, Nat.reduceEqDiff, Int.reduceLT, Int.reduceLE, Int.reduceAdd, Int.reduceSub, Int.reduceMul, Int.reduceToNat, reduceIte, reduceCtorEq, Nat.reduceBEq, ren, rens, gmap]
      rintro v h'' ⟨rfl, rfl⟩
      simp only [go_sem, Nat.reduceAdd, Nat.reduceSub, Nat.reduceLeDiff, Nat.reduceMul, Nat.reduceLT, Nat.reduceEqDiff, Int.reduceLT, Int.reduceLE, Int.reduceAdd, Int.reduceSub, Int.reduceMul, Int.reduceToNat, reduceIte, reduceCtorEq, Nat.reduceBEq, ren, rens, gmap, puts, wrB, Bool.false_eq_true, if_false, if_true, renB, scs_rens, Option.map_some, Option.map_none]
      refine run_driveS 80 ?_
      simp only [go_sem, Nat.reduceAdd, Nat.reduceSub, Nat.reduceLeDiff, Nat.reduceMul, Nat.reduceLT, Nat.reduceEqDiff, Int.reduceLT, Int.reduceLE, Int.reduceAdd, Int.reduceSub, Int.reduceMul, Int.reduceToNat, reduceIte, reduceCtorEq, Nat.reduceBEq]
      refine run_call' rfl ?_
      simp only [go_sem, Nat.reduceAdd, Nat.reduceSub, Nat.reduceLeDiff, Nat.reduceMul, Nat.reduceLT, Nat.reduceEqDiff, Int.reduceLT, Int.reduceLE, Int.reduceAdd, Int.reduceSub, Int.reduceMul, Int.reduceToNat, reduceIte, reduceCtorEq, Nat.reduceBEq, calV]
      refine vcall_at (stays f hf N n m hm hn (fun v h => v = .bool true ∧ h = [some ⟨.ro, scs n f ++ lc 78⟩, some ⟨.ro, scs N f⟩]) ⟨rfl, rfl⟩) [1, 0] (by simp) ?_ ?_ ?_ ?_
      · simp only [go_sem, Nat.reduceAdd, Nat.reduceSub, Nat.reduceLeDiff, Nat.reduceMul, Nat.reduceLT, Nat.reduceEqDiff, Int.reduceLT, Int.reduceLE, Int.reduceAdd, Int.reduceSub, Int.reduceMul, Int.reduceToNat, reduceIte, reduceCtorEq, Nat.reduceBEq, hfit, lc_fit, scs_fit, fit, ren, gmap, lw_plain, true_or, or_true, hft]
      · simp [uniq, wrB]
      · simp only [go_sem, Nat.reduceAdd, Nat.reduceSub, Nat.reduceLeDiff, Nat.reduceMul, Nat.reduceLT, Nat.reduceEqDiff, Int.reduceLT, Int.reduceLE, Int.reduceAdd, Int.reduceSub, Int.reduceMul, Int.reduceToNat, reduceIte, reduceCtorEq, Nat.reduceBEq, ren, rens, gmap]
      rintro v h'' ⟨rfl, rfl⟩
      simp only [go_sem, Nat.reduceAdd, Nat.reduceSub, Nat.reduceLeDiff, Nat.reduceMul, Nat.reduceLT, Nat.reduceEqDiff, Int.reduceLT, Int.reduceLE, Int.reduceAdd, Int.reduceSub, Int.reduceMul, Int.reduceToNat, reduceIte, reduceCtorEq, Nat.reduceBEq, ren, rens, gmap, puts, wrB, Bool.false_eq_true, if_false, if_true, renB, scs_rens, Option.map_some, Option.map_none]
      refine run_driveS 80 ?_
      simp only [go_sem, Nat.reduceAdd, Nat.reduceSub, Nat.reduceLeDiff, Nat.reduceMul, Nat.reduceLT, Nat.reduceEqDiff, Int.reduceLT, Int.reduceLE, Int.reduceAdd, Int.reduceSub, Int.reduceMul, Int.reduceToNat, reduceIte, reduceCtorEq, Nat.reduceBEq]
      refine run_ret_drop Tryd.func3 res3 [0] (.bool true) [some ⟨.ro, scs N f⟩] rfl (by simp) ?_ ?_ ?_ ⟨rfl, rfl⟩
      · simp only [go_sem, Nat.reduceAdd, Nat.reduceSub, Nat.reduceLeDiff, Nat.reduceMul, Nat.reduceLT, Nat.reduceEqDiff, Int.reduceLT, Int.reduceLE, Int.reduceAdd, Int.reduceSub, Int.reduceMul, Int.reduceToNat, reduceIte, reduceCtorEq, Nat.reduceBEq, hfit, lc_fit, scs_fit, fit, ren, gmap, lw_plain, true_or, or_true]
      · simp [uniq, wrB]
      · simp only [go_sem, Nat.reduceAdd, Nat.reduceSub, Nat.reduceLeDiff, Nat.reduceMul, Nat.reduceLT, Nat.reduceEqDiff, Int.reduceLT, Int.reduceLE, Int.reduceAdd, Int.reduceSub, Int.reduceMul, Int.reduceToNat, reduceIte, reduceCtorEq, Nat.reduceBEq, r3, ren, gmap]

theorem law (hG : G 0 = tbl) (f : Nat → Nat) (hf : ∀ j, f j < 115792089237316195423570985008687907853269984665640564039457584007913129639936) (N : Nat) (uv : V) (b0 : Option Blk) (hi : In f N uv b0) : VCall Tryd.prog G 3 [uv] [b0] fun v h => v = .bool true ∧ h = [b0] := by
  cases hi with
  | nil => exact law_nil hG f hf
  | sl M m hm =>
    rcases Nat.eq_zero_or_pos (min N 2100) with h | h
    · exact law_zero hG f hf N m hm h.symm
    · exact law_pos hG f hf N m hm _ rfl h
end Go.Vs.Tryd
