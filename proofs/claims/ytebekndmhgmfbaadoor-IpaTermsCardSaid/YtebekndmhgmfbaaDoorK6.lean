/- Text 6 of 7 of this claim: a machine of plain values beside the model, what the functions of the program and of the reference answer over it, and last the row and its card. -/
import Derived.Test.YtebekndmhgmfbaaDoorK5
import Derived.Test.YtebekndmhgmfbaaDoorK4
set_option linter.unusedVariables false
set_option linter.unusedSimpArgs false
namespace Go.Vs.Tryd
open Go.Proofs
variable {G : Nat → List V}
set_option linter.unusedSimpArgs false
attribute [local go_sem] lenO_nils lenO_sl sliceAtV Int.sub_zero List.length_append List.all_append ge_iff_le gt_iff_lt Int.natCast_nonneg Int.toNat_natCast Nat.mul_one b_and_ll b_shr_ll b_mul_ll b_add_ll b_or_ll b_shl_ll pick_ll pick_lc pick_bb driveS stopV drive stepV exo expo evs fillV isNil nilKind eqV eqL optA optM sliceAtV ev kn ldc stc splice appV srcV lenV setd wantV exitV rvs rv one List.length_cons List.length_nil List.cons_append List.nil_append List.append_nil List.replicate List.getD_cons_zero List.getD_cons_succ List.set_cons_zero List.set_cons_succ List.getElem?_cons_zero List.getElem?_cons_succ List.getElem?_nil List.take_succ_cons List.take_zero List.take_nil List.drop_succ_cons List.drop_zero List.drop_nil List.all_cons List.all_nil List.any_cons List.any_nil Bool.and_true Bool.true_and Bool.and_self Option.map_some Option.map_none Option.bind_some Option.some.injEq Nat.add_zero Nat.zero_add Int.toNat_zero Int.toNat_one Int.zero_add Int.add_zero if_true if_false ite_true ite_false and_true true_and and_self ne_eq not_false_eq_true not_true_eq_false decide_true decide_false Bool.false_eq_true Bool.not_true Bool.not_false beq_self_eq_true BEq.rfl Bool.not_eq_true Nat.le_refl Int.le_refl Nat.zero_le List.foldl List.map_cons List.map_nil Prod.mk.injEq Int.cast_ofNat_Int Int.zero_le_ofNat b_add_cc b_add_cl b_add_lc b_mul_cc b_mul_cl b_mul_lc b_sub_cc b_sub_cl b_sub_lc b_and_cc b_and_cl b_and_lc b_or_cc b_or_cl b_or_lc b_xor_cc b_xor_cl b_xor_lc b_andNot_cc b_andNot_cl b_andNot_lc b_shr_cc b_shr_cl b_shr_lc b_shl_cc b_shl_cl b_shl_lc b_lss b_leq b_gtr b_geq b_add_i b_sub_i b_mul_i beq_cc beq_cl beq_lc beq_ll b_quo_i b_rem_i neg_u64 wrap_i64 driveD stepD idsAt idOf maskH_nil restore_nil restore_mask List.filterMap_nil List.filterMap_cons VOp.looks VOp.makes exA cells_agg cells_int cells_bool cells_str cells_nilp cells_ptr cells_glob cells_nils cells_sl cells_nilf cells_fn cells_nili cells_ifc known_agg known_tup known_int known_bool known_str known_nilp known_ptr known_glob known_nils known_sl known_nilf known_fn known_nili known_ifc known_unk one_agg one_tup one_int one_bool one_str one_nilp one_ptr one_glob one_nils one_sl one_nilf one_fn one_nili one_ifc asK_int asN_int asB_bool asS_str asG_agg asT_tup
section
attribute [local go_sem ↓] lc_len lc_take lc_drop lc_known lc_one lc_rens lc_cells lw_known lw_agg lw_asG scs_known scs_one scs_len
set_option maxRecDepth 100000
set_option maxHeartbeats 1000000
theorem bool_tf : (true == false) = false := rfl
theorem bool_ft : (false == true) = false := rfl
attribute [local go_sem] bool_tf bool_ft
theorem shl_one (k : Nat) (hk : k ≤ 10) : binI .shl .i64 1 .i64 (k : Int) = some (.int .i64 ((2 ^ k : Nat) : Int)) := by
  have : k = 0 ∨ k = 1 ∨ k = 2 ∨ k = 3 ∨ k = 4 ∨ k = 5 ∨ k = 6 ∨ k = 7 ∨ k = 8 ∨ k = 9 ∨ k = 10 := by omega
  rcases this with rfl | rfl | rfl | rfl | rfl | rfl | rfl | rfl | rfl | rfl | rfl <;> rfl
theorem eq_int (a b : Nat) : ((a : Int) == (b : Int)) = decide (a = b) := by rw [Bool.eq_iff_iff]; simp; omega
theorem lt_int (a b : Nat) : decide ((a : Int) < (b : Int)) = decide (a < b) := by rw [Bool.eq_iff_iff]; simp
theorem log_loop (n : Nat) {Q : V → Heap → Prop} (hQ1 : ∀ k : Nat, k ≤ 10 → n = 2 ^ k → Q (.int .i64 k) []) (hQ2 : (∀ k : Nat, k ≤ 10 → n ≠ 2 ^ k) → Q (.int .i64 (-1)) []) : ∀ j k, k + j = 11 → (∀ i, i < k → n ≠ 2 ^ i) →
    Run Tryd.prog G 46 0 Q ([.l v46_7, .b 0, .c (.seq (.reg v46_9) .ret)], ⟨[.int .i64 n, .unk, .int .i64 0, .int .i64 k] ++ List.replicate 9 .unk, []⟩)
  | 0, k, h, hz => by
    obtain rfl : k = 11 := by omega
    refine run_loop_eq v46_7.eq_1 ?_
    refine run_driveS 80 ?_
    simp only [go_sem, Nat.reduceAdd, Nat.reduceSub, Nat.reduceLeDiff, Nat.reduceMul, Nat.reduceLT, Nat.reduceEqDiff, Int.reduceLT, Int.reduceLE, Int.reduceAdd, Int.reduceSub, Int.reduceMul, Int.reduceToNat, reduceIte, reduceCtorEq, Nat.reduceBEq, v46_2]
    refine run_exit rfl ?_
    refine run_driveS 80 ?_
    simp only [go_sem, Nat.reduceAdd, Nat.reduceSub, Nat.reduceLeDiff, Nat.reduceMul, Nat.reduceLT, Nat.reduceEqDiff, Int.reduceLT, Int.reduceLE, Int.reduceAdd, Int.reduceSub, Int.reduceMul, Int.reduceToNat, reduceIte, reduceCtorEq, Nat.reduceBEq, v46_9]
    refine run_ret_drop Tryd.func46 res46 [] (.int .i64 (-1)) [] rfl (by simp) trivial (by simp [uniq]) ?_ (hQ2 fun k hk => hz k (by omega))
    simp only [go_sem, Nat.reduceAdd, Nat.reduceSub, Nat.reduceLeDiff, Nat.reduceMul, Nat.reduceLT, Nat.reduceEqDiff, Int.reduceLT, Int.reduceLE, Int.reduceAdd, Int.reduceSub, Int.reduceMul, Int.reduceToNat, reduceIte, reduceCtorEq, Nat.reduceBEq, rr46, ren]
  | j + 1, k, h, hz => by
    have h0 : ((k : Int) ≤ 10) = True := eq_true (by omega)
    have hs := shl_one k (by omega)
    have hw : IntKind.i64.wrap ((k : Int) + 1) = ((k + 1 : Nat) : Int) := by rw [wrap_i64 (by omega) (by omega)]; omega
    refine run_loop_eq v46_7.eq_1 ?_
    refine run_driveS 80 ?_
    simp only [go_sem, Nat.reduceAdd, Nat.reduceSub, Nat.reduceLeDiff, Nat.reduceMul, Nat.reduceLT, Nat.reduceEqDiff, Int.reduceLT, Int.reduceLE, Int.reduceAdd, Int.reduceSub, Int.reduceMul, Int.reduceToNat, reduceIte, reduceCtorEq, Nat.reduceBEq, v46_2, v46_5, v46_3, h0, hs, eq_int]
    by_cases he : n = 2 ^ k
    · refine run_cond_t (by simp only [go_sem, Nat.reduceAdd, Nat.reduceSub, Nat.reduceLeDiff, Nat.reduceMul, Nat.reduceLT, Nat.reduceEqDiff, Int.reduceLT, Int.reduceLE, Int.reduceAdd, Int.reduceSub, Int.reduceMul, Int.reduceToNat, reduceIte, reduceCtorEq, Nat.reduceBEq, decide_eq_true he.symm]) ?_
      refine run_driveS 80 ?_
      simp only [go_sem, Nat.reduceAdd, Nat.reduceSub, Nat.reduceLeDiff, Nat.reduceMul, Nat.reduceLT, Nat.reduceEqDiff, Int.reduceLT, Int.reduceLE, Int.reduceAdd, Int.reduceSub, Int.reduceMul, Int.reduceToNat, reduceIte, reduceCtorEq, Nat.reduceBEq, v46_4]
      refine run_ret_drop Tryd.func46 res46 [] (.int .i64 k) [] rfl (by simp) trivial (by simp [uniq]) ?_ (hQ1 k (by omega) he)
      simp only [go_sem, Nat.reduceAdd, Nat.reduceSub, Nat.reduceLeDiff, Nat.reduceMul, Nat.reduceLT, Nat.reduceEqDiff, Int.reduceLT, Int.reduceLE, Int.reduceAdd, Int.reduceSub, Int.reduceMul, Int.reduceToNat, reduceIte, reduceCtorEq, Nat.reduceBEq, rr46, ren]
    · have hd : decide (2 ^ k = n) = false := decide_eq_false (fun e : 2 ^ k = n => he e.symm)
      refine run_cond_f (by simp only [go_sem, Nat.reduceAdd, Nat.reduceSub, Nat.reduceLeDiff, Nat.reduceMul, Nat.reduceLT, Nat.reduceEqDiff, Int.reduceLT, Int.reduceLE, Int.reduceAdd, Int.reduceSub, Int.reduceMul, Int.reduceToNat, reduceIte, reduceCtorEq, Nat.reduceBEq, hd]) ?_
      refine run_driveS 80 ?_
      simp only [go_sem, Nat.reduceAdd, Nat.reduceSub, Nat.reduceLeDiff, Nat.reduceMul, Nat.reduceLT, Nat.reduceEqDiff, Int.reduceLT, Int.reduceLE, Int.reduceAdd, Int.reduceSub, Int.reduceMul, Int.reduceToNat, reduceIte, reduceCtorEq, Nat.reduceBEq, v46_6, hw]
      refine run_rename [] rfl (by simp) ?_ ?_ ?_ (log_loop n hQ1 hQ2 j (k + 1) (by omega) (fun i hi => by
        by_cases e : i = k
        · subst e; exact he
        · exact hz i (by omega)))
      · simp only [go_sem, Nat.reduceAdd, Nat.reduceSub, Nat.reduceLeDiff, Nat.reduceMul, Nat.reduceLT, Nat.reduceEqDiff, Int.reduceLT, Int.reduceLE, Int.reduceAdd, Int.reduceSub, Int.reduceMul, Int.reduceToNat, reduceIte, reduceCtorEq, Nat.reduceBEq, hfit, lc_fit, scs_fit, fit, ren, gmap, lw_plain, true_or, or_true]
      · simp [uniq]
      · simp only [go_sem, Nat.reduceAdd, Nat.reduceSub, Nat.reduceLeDiff, Nat.reduceMul, Nat.reduceLT, Nat.reduceEqDiff, Int.reduceLT, Int.reduceLE, Int.reduceAdd, Int.reduceSub, Int.reduceMul, Int.reduceToNat, reduceIte, reduceCtorEq, Nat.reduceBEq, hfit, lc_fit, scs_fit, fit, ren, gmap, lw_plain, true_or, or_true]
theorem log_ (n : Nat) {h : Heap} {R : V → Heap → Prop} (hQ1 : ∀ k : Nat, k ≤ 10 → n = 2 ^ k → R (.int .i64 k) h) (hQ2 : (∀ k : Nat, k ≤ 10 → n ≠ 2 ^ k) → R (.int .i64 (-1)) h) : VCall Tryd.prog G 46 [.int .i64 n] h R := by
  refine vcall_plain (Q := fun v => (∃ k : Nat, k ≤ 10 ∧ n = 2 ^ k ∧ v = .int .i64 k) ∨ ((∀ k : Nat, k ≤ 10 → n ≠ 2 ^ k) ∧ v = .int .i64 (-1))) ?_ (fun g => by simp only [rens, ren]) ?_ ?_
  · refine vcall_body Tryd.func46 nm46 code46 nt46 ?_
    refine run_driveS 80 ?_
    simp only [go_sem, Nat.reduceAdd, Nat.reduceSub, Nat.reduceLeDiff, Nat.reduceMul, Nat.reduceLT, Nat.reduceEqDiff, Int.reduceLT, Int.reduceLE, Int.reduceAdd, Int.reduceSub, Int.reduceMul, Int.reduceToNat, reduceIte, reduceCtorEq, Nat.reduceBEq, v46, v46_0, v46_1, v46_8]
    refine run_rename [] rfl (by simp) ?_ ?_ ?_ (log_loop n (fun k hk e => ⟨.inl ⟨k, hk, e, rfl⟩, rfl⟩) (fun hz => ⟨.inr ⟨hz, rfl⟩, rfl⟩) 11 0 (by omega) (fun i hi => by omega))
    · simp only [go_sem, Nat.reduceAdd, Nat.reduceSub, Nat.reduceLeDiff, Nat.reduceMul, Nat.reduceLT, Nat.reduceEqDiff, Int.reduceLT, Int.reduceLE, Int.reduceAdd, Int.reduceSub, Int.reduceMul, Int.reduceToNat, reduceIte, reduceCtorEq, Nat.reduceBEq, hfit, lc_fit, scs_fit, fit, ren, gmap, lw_plain, true_or, or_true]
    · simp [uniq]
    · simp only [go_sem, Nat.reduceAdd, Nat.reduceSub, Nat.reduceLeDiff, Nat.reduceMul, Nat.reduceLT, Nat.reduceEqDiff, Int.reduceLT, Int.reduceLE, Int.reduceAdd, Int.reduceSub, Int.reduceMul, Int.reduceToNat, reduceIte, reduceCtorEq, Nat.reduceBEq, hfit, lc_fit, scs_fit, fit, ren, gmap, lw_plain, true_or, or_true]
  · rintro v g (⟨k, _, _, rfl⟩ | ⟨_, rfl⟩) <;> rfl
  · rintro v (⟨k, hk, e, rfl⟩ | ⟨hz, rfl⟩)
    · exact hQ1 k hk e
    · exact hQ2 hz
def av (n : Nat) : Int := bits .and .i64 (n : Int) ((n : Int) - 1)
theorem av_all : ((List.range 1025).all fun n => Nat.beq n 0 || ((List.range 11).any (fun k => Nat.beq n (2 ^ k)) == decide (av n = 0))) = true := by decide +kernel
theorem av_pow {n : Nat} (h1 : 1 ≤ n) (h2 : n ≤ 1024) : (av n = 0) ↔ ∃ k : Nat, k ≤ 10 ∧ n = 2 ^ k := by
  have h := List.all_eq_true.1 av_all n (by rw [List.mem_range]; omega)
  rw [Bool.or_eq_true] at h
  rcases h with h | h
  · have := Nat.eq_of_beq_eq_true h; omega
  · have h := eq_of_beq h
    constructor
    · intro e
      rw [decide_eq_true e, List.any_eq_true] at h
      obtain ⟨k, hk, e⟩ := h
      rw [List.mem_range] at hk
      exact ⟨k, by omega, Nat.eq_of_beq_eq_true e⟩
    · rintro ⟨k, hk, e⟩
      have : (List.range 11).any (fun k => Nat.beq n (2 ^ k)) = true := List.any_eq_true.2 ⟨k, by rw [List.mem_range]; omega, by rw [e]; exact Nat.beq_refl _⟩
      rw [this] at h
      exact of_decide_eq_true h.symm
theorem b_and_av (n : Nat) : binI .and .i64 (n : Int) .i64 ((n : Int) - 1) = some (.int .i64 (av n)) := by simp only [binI, if_true, av]
theorem rounds_loop (K : Nat) (hK : K ≤ 10) {Q : V → Heap → Prop} (hQ : Q (.tup [.int .i64 K, .bool true]) []) : ∀ m k, k + m = K →
    Run Tryd.prog G 77 0 Q ([.l v77_7, .b 0, .c (.seq (.reg v77_9) .ret)], ⟨[.int .i64 ((2 ^ K : Nat) : Int), .unk, .int .i64 0, .bool false, .int .i64 k] ++ List.replicate 20 .unk, []⟩)
  | 0, k, h => by
    obtain rfl : k = K := by omega
    have hs := shl_one k hK
    have h0 : (((2 ^ k : Nat) : Int) < ((2 ^ k : Nat) : Int)) = False := eq_false (by omega)
    refine run_loop_eq v77_7.eq_1 ?_
    refine run_driveS 80 ?_
    simp only [go_sem, Nat.reduceAdd, Nat.reduceSub, Nat.reduceLeDiff, Nat.reduceMul, Nat.reduceLT, Nat.reduceEqDiff, Int.reduceLT, Int.reduceLE, Int.reduceAdd, Int.reduceSub, Int.reduceMul, Int.reduceToNat, reduceIte, reduceCtorEq, Nat.reduceBEq, v77_4, hs, h0]
    refine run_exit rfl ?_
    refine run_driveS 80 ?_
    simp only [go_sem, Nat.reduceAdd, Nat.reduceSub, Nat.reduceLeDiff, Nat.reduceMul, Nat.reduceLT, Nat.reduceEqDiff, Int.reduceLT, Int.reduceLE, Int.reduceAdd, Int.reduceSub, Int.reduceMul, Int.reduceToNat, reduceIte, reduceCtorEq, Nat.reduceBEq, v77_9]
    refine run_ret_drop Tryd.func77 res77 [] (.tup [.int .i64 k, .bool true]) [] rfl (by simp) trivial (by simp [uniq]) ?_ hQ
    simp only [go_sem, Nat.reduceAdd, Nat.reduceSub, Nat.reduceLeDiff, Nat.reduceMul, Nat.reduceLT, Nat.reduceEqDiff, Int.reduceLT, Int.reduceLE, Int.reduceAdd, Int.reduceSub, Int.reduceMul, Int.reduceToNat, reduceIte, reduceCtorEq, Nat.reduceBEq, rr77, ren, rens]
  | m + 1, k, h => by
    have ih := rounds_loop K hK hQ m (k + 1) (by omega)
    have hs := shl_one k (by omega)
    have hlt : 2 ^ k < 2 ^ K := Nat.pow_lt_pow_right (by decide) (by omega)
    have h0 : (((2 ^ k : Nat) : Int) < ((2 ^ K : Nat) : Int)) = True := eq_true (by omega)
    have hw : IntKind.i64.wrap ((k : Int) + 1) = ((k + 1 : Nat) : Int) := by rw [wrap_i64 (by omega) (by omega)]; omega
    refine run_loop_eq v77_7.eq_1 ?_
    refine run_driveS 80 ?_
    simp only [go_sem, Nat.reduceAdd, Nat.reduceSub, Nat.reduceLeDiff, Nat.reduceMul, Nat.reduceLT, Nat.reduceEqDiff, Int.reduceLT, Int.reduceLE, Int.reduceAdd, Int.reduceSub, Int.reduceMul, Int.reduceToNat, reduceIte, reduceCtorEq, Nat.reduceBEq, v77_4, v77_6, v77_5, hs, h0, hw]
    refine run_rename [] rfl (by simp) ?_ ?_ ?_ ih
    · simp only [go_sem, Nat.reduceAdd, Nat.reduceSub, Nat.reduceLeDiff, Nat.reduceMul, Nat.reduceLT, Nat.reduceEqDiff, Int.reduceLT, Int.reduceLE, Int.reduceAdd, Int.reduceSub, Int.reduceMul, Int.reduceToNat, reduceIte, reduceCtorEq, Nat.reduceBEq, hfit, lc_fit, scs_fit, fit, ren, gmap, lw_plain, true_or, or_true]
    · simp [uniq]
    · simp only [go_sem, Nat.reduceAdd, Nat.reduceSub, Nat.reduceLeDiff, Nat.reduceMul, Nat.reduceLT, Nat.reduceEqDiff, Int.reduceLT, Int.reduceLE, Int.reduceAdd, Int.reduceSub, Int.reduceMul, Int.reduceToNat, reduceIte, reduceCtorEq, Nat.reduceBEq, hfit, lc_fit, scs_fit, fit, ren, gmap, lw_plain, true_or, or_true]
theorem rounds_ (n : Nat) (hn : n < 1000000) {h : Heap} {R : V → Heap → Prop} (hQ1 : ∀ k : Nat, k ≤ 10 → n = 2 ^ k → R (.tup [.int .i64 k, .bool true]) h) (hQ2 : (∀ k : Nat, k ≤ 10 → n ≠ 2 ^ k) → R (.tup [.int .i64 0, .bool false]) h) : VCall Tryd.prog G 77 [.int .i64 n] h R := by
  refine vcall_plain (Q := fun v => (∃ k : Nat, k ≤ 10 ∧ n = 2 ^ k ∧ v = .tup [.int .i64 k, .bool true]) ∨ ((∀ k : Nat, k ≤ 10 → n ≠ 2 ^ k) ∧ v = .tup [.int .i64 0, .bool false])) ?_ (fun g => by simp only [rens, ren]) ?_ ?_
  · refine vcall_body Tryd.func77 nm77 code77 nt77 ?_
    have hw : IntKind.i64.wrap ((n : Int) - 1) = (n : Int) - 1 := wrap_i64 (by omega) (by omega)
    have ha := b_and_av n
    by_cases h1 : n < 1
    · have c1 : ((n : Int) < 1) = True := eq_true (by omega)
      refine run_driveS 80 ?_
      simp only [go_sem, Nat.reduceAdd, Nat.reduceSub, Nat.reduceLeDiff, Nat.reduceMul, Nat.reduceLT, Nat.reduceEqDiff, Int.reduceLT, Int.reduceLE, Int.reduceAdd, Int.reduceSub, Int.reduceMul, Int.reduceToNat, reduceIte, reduceCtorEq, Nat.reduceBEq, v77, v77_0, v77_1, c1]
      refine run_cond_t (by rfl) ?_
      refine run_driveS 80 ?_
      simp only [go_sem, Nat.reduceAdd, Nat.reduceSub, Nat.reduceLeDiff, Nat.reduceMul, Nat.reduceLT, Nat.reduceEqDiff, Int.reduceLT, Int.reduceLE, Int.reduceAdd, Int.reduceSub, Int.reduceMul, Int.reduceToNat, reduceIte, reduceCtorEq, Nat.reduceBEq, v77_2]
      refine run_ret_drop Tryd.func77 res77 [] (.tup [.int .i64 0, .bool false]) [] rfl (by simp) trivial (by simp [uniq]) ?_ ⟨.inr ⟨fun k _ e => by have := Nat.two_pow_pos k; omega, rfl⟩, rfl⟩
      simp only [go_sem, Nat.reduceAdd, Nat.reduceSub, Nat.reduceLeDiff, Nat.reduceMul, Nat.reduceLT, Nat.reduceEqDiff, Int.reduceLT, Int.reduceLE, Int.reduceAdd, Int.reduceSub, Int.reduceMul, Int.reduceToNat, reduceIte, reduceCtorEq, Nat.reduceBEq, rr77, ren, rens]
    · have c1 : ((n : Int) < 1) = False := eq_false (by omega)
      by_cases h2 : 1024 < n
      · have c2 : ((1024 : Int) < (n : Int)) = True := eq_true (by omega)
        refine run_driveS 80 ?_
        simp only [go_sem, Nat.reduceAdd, Nat.reduceSub, Nat.reduceLeDiff, Nat.reduceMul, Nat.reduceLT, Nat.reduceEqDiff, Int.reduceLT, Int.reduceLE, Int.reduceAdd, Int.reduceSub, Int.reduceMul, Int.reduceToNat, reduceIte, reduceCtorEq, Nat.reduceBEq, v77, v77_0, v77_1, c1, c2]
        refine run_cond_t (by rfl) ?_
        refine run_driveS 80 ?_
        simp only [go_sem, Nat.reduceAdd, Nat.reduceSub, Nat.reduceLeDiff, Nat.reduceMul, Nat.reduceLT, Nat.reduceEqDiff, Int.reduceLT, Int.reduceLE, Int.reduceAdd, Int.reduceSub, Int.reduceMul, Int.reduceToNat, reduceIte, reduceCtorEq, Nat.reduceBEq, v77_2]
        refine run_ret_drop Tryd.func77 res77 [] (.tup [.int .i64 0, .bool false]) [] rfl (by simp) trivial (by simp [uniq]) ?_ ⟨.inr ⟨fun k hk e => by have : 2 ^ k ≤ 2 ^ 10 := Nat.pow_le_pow_right (by decide) hk; omega, rfl⟩, rfl⟩
        simp only [go_sem, Nat.reduceAdd, Nat.reduceSub, Nat.reduceLeDiff, Nat.reduceMul, Nat.reduceLT, Nat.reduceEqDiff, Int.reduceLT, Int.reduceLE, Int.reduceAdd, Int.reduceSub, Int.reduceMul, Int.reduceToNat, reduceIte, reduceCtorEq, Nat.reduceBEq, rr77, ren, rens]
      · have c2 : ((1024 : Int) < (n : Int)) = False := eq_false (by omega)
        by_cases h3 : ∃ k : Nat, k ≤ 10 ∧ n = 2 ^ k
        · have c3 : (av n == 0) = true := by rw [beq_iff_eq]; exact (av_pow (by omega) (by omega)).2 h3
          refine run_driveS 80 ?_
          simp only [go_sem, Nat.reduceAdd, Nat.reduceSub, Nat.reduceLeDiff, Nat.reduceMul, Nat.reduceLT, Nat.reduceEqDiff, Int.reduceLT, Int.reduceLE, Int.reduceAdd, Int.reduceSub, Int.reduceMul, Int.reduceToNat, reduceIte, reduceCtorEq, Nat.reduceBEq, v77, v77_0, v77_1, c1, c2, hw, ha, c3]
          refine run_cond_f (by rfl) ?_
          refine run_driveS 80 ?_
          simp only [go_sem, Nat.reduceAdd, Nat.reduceSub, Nat.reduceLeDiff, Nat.reduceMul, Nat.reduceLT, Nat.reduceEqDiff, Int.reduceLT, Int.reduceLE, Int.reduceAdd, Int.reduceSub, Int.reduceMul, Int.reduceToNat, reduceIte, reduceCtorEq, Nat.reduceBEq, v77_3, v77_8]
          obtain ⟨k, hk, rfl⟩ := h3
          refine run_rename [] rfl (by simp) ?_ ?_ ?_ (rounds_loop k hk ⟨.inl ⟨k, hk, rfl, rfl⟩, rfl⟩ k 0 (by omega))
          · simp only [go_sem, Nat.reduceAdd, Nat.reduceSub, Nat.reduceLeDiff, Nat.reduceMul, Nat.reduceLT, Nat.reduceEqDiff, Int.reduceLT, Int.reduceLE, Int.reduceAdd, Int.reduceSub, Int.reduceMul, Int.reduceToNat, reduceIte, reduceCtorEq, Nat.reduceBEq, hfit, lc_fit, scs_fit, fit, ren, gmap, lw_plain, true_or, or_true]
          · simp [uniq]
          · simp only [go_sem, Nat.reduceAdd, Nat.reduceSub, Nat.reduceLeDiff, Nat.reduceMul, Nat.reduceLT, Nat.reduceEqDiff, Int.reduceLT, Int.reduceLE, Int.reduceAdd, Int.reduceSub, Int.reduceMul, Int.reduceToNat, reduceIte, reduceCtorEq, Nat.reduceBEq, hfit, lc_fit, scs_fit, fit, ren, gmap, lw_plain, true_or, or_true]
        · have c3 : (av n == 0) = false := by
            rw [beq_eq_false_iff_ne]
            exact fun e => h3 ((av_pow (by omega) (by omega)).1 e)
          refine run_driveS 80 ?_
          simp only [go_sem, Nat.reduceAdd, Nat.reduceSub, Nat.reduceLeDiff, Nat.reduceMul, Nat.reduceLT, Nat.reduceEqDiff, Int.reduceLT, Int.reduceLE, Int.reduceAdd, Int.reduceSub, Int.reduceMul, Int.reduceToNat, reduceIte, reduceCtorEq, Nat.reduceBEq, v77, v77_0, v77_1, c1, c2, hw, ha, c3]
          refine run_cond_t (by rfl) ?_
          refine run_driveS 80 ?_
          simp only [go_sem, Nat.reduceAdd, Nat.reduceSub, Nat.reduceLeDiff, Nat.reduceMul, Nat.reduceLT, Nat.reduceEqDiff, Int.reduceLT, Int.reduceLE, Int.reduceAdd, Int.reduceSub, Int.reduceMul, Int.reduceToNat, reduceIte, reduceCtorEq, Nat.reduceBEq, v77_2]
          refine run_ret_drop Tryd.func77 res77 [] (.tup [.int .i64 0, .bool false]) [] rfl (by simp) trivial (by simp [uniq]) ?_ ⟨.inr ⟨fun k hk e => h3 ⟨k, hk, e⟩, rfl⟩, rfl⟩
          simp only [go_sem, Nat.reduceAdd, Nat.reduceSub, Nat.reduceLeDiff, Nat.reduceMul, Nat.reduceLT, Nat.reduceEqDiff, Int.reduceLT, Int.reduceLE, Int.reduceAdd, Int.reduceSub, Int.reduceMul, Int.reduceToNat, reduceIte, reduceCtorEq, Nat.reduceBEq, rr77, ren, rens]
  · rintro v g (⟨k, _, _, rfl⟩ | ⟨_, rfl⟩) <;> rfl
  · rintro v (⟨k, hk, e, rfl⟩ | ⟨hz, rfl⟩)
    · exact hQ1 k hk e
    · exact hQ2 hz
end
section
attribute [local go_sem ↓] lc_len lc_take lc_drop lc_known lc_one lc_rens lc_cells lw_known lw_agg lw_asG scs_known scs_one scs_len
set_option maxRecDepth 100000
set_option maxHeartbeats 1000000
theorem sub_ (hG : G 0 = tbl) (A B : Nat) (hA : A < 115792089237316195423570985008687907853269984665640564039457584007913129639936) (hB : B < 115792089237316195423570985008687907853269984665640564039457584007913129639936) {h : Heap} {R : V → Heap → Prop} (hQ : R (lw ((A + (ell - B % ell)) % ell)) h) : VCall Tryd.prog G 69 [lw A, lw B] h R := by
  refine vcall_plain (Q := fun v => v = lw ((A + (ell - B % ell)) % ell)) ?_ (fun g => by simp only [rens, lw_plain]) (fun v g hv => by subst hv; exact lw_plain _ g) (fun v hv => by subst hv; exact hQ)
  have h2 : ell + ell < 115792089237316195423570985008687907853269984665640564039457584007913129639936 := by decide
  refine vcall_body Tryd.func69 nm69 code69 nt69 ?_
  refine run_driveS 80 ?_
  simp only [go_sem, Nat.reduceAdd, Nat.reduceSub, Nat.reduceLeDiff, Nat.reduceMul, Nat.reduceLT, Nat.reduceEqDiff, Int.reduceLT, Int.reduceLE, Int.reduceAdd, Int.reduceSub, Int.reduceMul, Int.reduceToNat, reduceIte, reduceCtorEq, Nat.reduceBEq, v69, v69_0]
  refine run_drw (by kernel_rfl) ?_
  refine drun_drive 40 (p := (_, _)) ?_
  simp only [go_sem, Nat.reduceAdd, Nat.reduceSub, Nat.reduceLeDiff, Nat.reduceMul, Nat.reduceLT, Nat.reduceEqDiff, Int.reduceLT, Int.reduceLE, Int.reduceAdd, Int.reduceSub, Int.reduceMul, Int.reduceToNat, reduceIte, reduceCtorEq, Nat.reduceBEq, v69_1]
  refine drun_call' ?_
  simp only [go_sem, Nat.reduceAdd, Nat.reduceSub, Nat.reduceLeDiff, Nat.reduceMul, Nat.reduceLT, Nat.reduceEqDiff, Int.reduceLT, Int.reduceLE, Int.reduceAdd, Int.reduceSub, Int.reduceMul, Int.reduceToNat, reduceIte, reduceCtorEq, Nat.reduceBEq, calV]
  refine least' hG A hA ?_
  refine drun_drive 40 (p := (_, _)) ?_
  simp only [go_sem, Nat.reduceAdd, Nat.reduceSub, Nat.reduceLeDiff, Nat.reduceMul, Nat.reduceLT, Nat.reduceEqDiff, Int.reduceLT, Int.reduceLE, Int.reduceAdd, Int.reduceSub, Int.reduceMul, Int.reduceToNat, reduceIte, reduceCtorEq, Nat.reduceBEq]
  refine drun_call' ?_
  simp only [go_sem, Nat.reduceAdd, Nat.reduceSub, Nat.reduceLeDiff, Nat.reduceMul, Nat.reduceLT, Nat.reduceEqDiff, Int.reduceLT, Int.reduceLE, Int.reduceAdd, Int.reduceSub, Int.reduceMul, Int.reduceToNat, reduceIte, reduceCtorEq, Nat.reduceBEq, calV]
  refine least' hG B hB ?_
  refine drun_drive 40 (p := (_, _)) ?_
  simp only [go_sem, Nat.reduceAdd, Nat.reduceSub, Nat.reduceLeDiff, Nat.reduceMul, Nat.reduceLT, Nat.reduceEqDiff, Int.reduceLT, Int.reduceLE, Int.reduceAdd, Int.reduceSub, Int.reduceMul, Int.reduceToNat, reduceIte, reduceCtorEq, Nat.reduceBEq]
  refine drun_call' ?_
  simp only [go_sem, Nat.reduceAdd, Nat.reduceSub, Nat.reduceLeDiff, Nat.reduceMul, Nat.reduceLT, Nat.reduceEqDiff, Int.reduceLT, Int.reduceLE, Int.reduceAdd, Int.reduceSub, Int.reduceMul, Int.reduceToNat, reduceIte, reduceCtorEq, Nat.reduceBEq, calV]
  refine minus' _ _ (mod_lt A) (mod_lt B) fun D b hD hb he => ?_
  unfold u
  refine drun_drive 40 (p := (_, _)) ?_
  simp only [go_sem, Nat.reduceAdd, Nat.reduceSub, Nat.reduceLeDiff, Nat.reduceMul, Nat.reduceLT, Nat.reduceEqDiff, Int.reduceLT, Int.reduceLE, Int.reduceAdd, Int.reduceSub, Int.reduceMul, Int.reduceToNat, reduceIte, reduceCtorEq, Nat.reduceBEq]
  refine drun_end ?_
  refine run_driveS 80 ?_
  simp only [go_sem, Nat.reduceAdd, Nat.reduceSub, Nat.reduceLeDiff, Nat.reduceMul, Nat.reduceLT, Nat.reduceEqDiff, Int.reduceLT, Int.reduceLE, Int.reduceAdd, Int.reduceSub, Int.reduceMul, Int.reduceToNat, reduceIte, reduceCtorEq, Nat.reduceBEq, v69_2, hG, tbl, lw_ell]
  refine run_call' rfl ?_
  simp only [go_sem, Nat.reduceAdd, Nat.reduceSub, Nat.reduceLeDiff, Nat.reduceMul, Nat.reduceLT, Nat.reduceEqDiff, Int.reduceLT, Int.reduceLE, Int.reduceAdd, Int.reduceSub, Int.reduceMul, Int.reduceToNat, reduceIte, reduceCtorEq, Nat.reduceBEq, calV]
  refine plus' D ell hD ell_lt fun E c hE hc hp => ?_
  unfold u
  refine run_driveS 80 ?_
  simp only [go_sem, Nat.reduceAdd, Nat.reduceSub, Nat.reduceLeDiff, Nat.reduceMul, Nat.reduceLT, Nat.reduceEqDiff, Int.reduceLT, Int.reduceLE, Int.reduceAdd, Int.reduceSub, Int.reduceMul, Int.reduceToNat, reduceIte, reduceCtorEq, Nat.reduceBEq, v69_3]
  refine run_call' rfl ?_
  simp only [go_sem, Nat.reduceAdd, Nat.reduceSub, Nat.reduceLeDiff, Nat.reduceMul, Nat.reduceLT, Nat.reduceEqDiff, Int.reduceLT, Int.reduceLE, Int.reduceAdd, Int.reduceSub, Int.reduceMul, Int.reduceToNat, reduceIte, reduceCtorEq, Nat.reduceBEq, calV]
  refine choose' (decide (b = 1)) E D _ (mask_of hb) ?_
  have hR : (if decide (b = 1) = true then lw E else lw D) = lw ((A + (ell - B % ell)) % ell) := by
    have ha := mod_lt' A
    have hb' := mod_lt' B
    have e1 : (A + (ell - B % ell)) % ell = (A % ell + (ell - B % ell)) % ell := (Nat.mod_add_mod A ell _).symm
    rw [e1]
    by_cases h1 : b = 1
    · rw [if_pos (by simpa using h1), Nat.mod_eq_of_lt (by omega)]
      exact congrArg lw (by omega)
    · rw [if_neg (by simpa using h1), Nat.mod_eq_sub_mod (by omega), Nat.mod_eq_of_lt (by omega)]
      exact congrArg lw (by omega)
  rw [hR]
  refine run_driveS 80 ?_
  simp only [go_sem, Nat.reduceAdd, Nat.reduceSub, Nat.reduceLeDiff, Nat.reduceMul, Nat.reduceLT, Nat.reduceEqDiff, Int.reduceLT, Int.reduceLE, Int.reduceAdd, Int.reduceSub, Int.reduceMul, Int.reduceToNat, reduceIte, reduceCtorEq, Nat.reduceBEq]
  refine run_ret_drop Tryd.func69 res69 [] (lw ((A + (ell - B % ell)) % ell)) [] rfl (by simp) trivial (by simp [uniq]) ?_ ⟨rfl, rfl⟩
  simp only [go_sem, Nat.reduceAdd, Nat.reduceSub, Nat.reduceLeDiff, Nat.reduceMul, Nat.reduceLT, Nat.reduceEqDiff, Int.reduceLT, Int.reduceLE, Int.reduceAdd, Int.reduceSub, Int.reduceMul, Int.reduceToNat, reduceIte, reduceCtorEq, Nat.reduceBEq, rr69, lw_plain]
theorem neg_ (hG : G 0 = tbl) (B : Nat) (hB : B < 115792089237316195423570985008687907853269984665640564039457584007913129639936) {h : Heap} {R : V → Heap → Prop} (hQ : R (lw ((ell - B % ell) % ell)) h) : VCall Tryd.prog G 43 [lw B] h R := by
  refine vcall_plain (Q := fun v => v = lw ((ell - B % ell) % ell)) ?_ (fun g => by simp only [rens, lw_plain]) (fun v g hv => by subst hv; exact lw_plain _ g) (fun v hv => by subst hv; exact hQ)
  refine vcall_body Tryd.func43 nm43 code43 nt43 ?_
  refine run_driveS 80 ?_
  simp only [go_sem, Nat.reduceAdd, Nat.reduceSub, Nat.reduceLeDiff, Nat.reduceMul, Nat.reduceLT, Nat.reduceEqDiff, Int.reduceLT, Int.reduceLE, Int.reduceAdd, Int.reduceSub, Int.reduceMul, Int.reduceToNat, reduceIte, reduceCtorEq, Nat.reduceBEq, v43, v43_0, v43_1, lc_zero]
  refine run_call' rfl ?_
  simp only [go_sem, Nat.reduceAdd, Nat.reduceSub, Nat.reduceLeDiff, Nat.reduceMul, Nat.reduceLT, Nat.reduceEqDiff, Int.reduceLT, Int.reduceLE, Int.reduceAdd, Int.reduceSub, Int.reduceMul, Int.reduceToNat, reduceIte, reduceCtorEq, Nat.reduceBEq, calV]
  refine sub_ hG 0 B (by decide) hB ?_
  rw [Nat.zero_add]
  refine run_driveS 80 ?_
  simp only [go_sem, Nat.reduceAdd, Nat.reduceSub, Nat.reduceLeDiff, Nat.reduceMul, Nat.reduceLT, Nat.reduceEqDiff, Int.reduceLT, Int.reduceLE, Int.reduceAdd, Int.reduceSub, Int.reduceMul, Int.reduceToNat, reduceIte, reduceCtorEq, Nat.reduceBEq]
  refine run_ret_drop Tryd.func43 res43 [] (lw ((ell - B % ell) % ell)) [] rfl (by simp) trivial (by simp [uniq]) ?_ ⟨rfl, rfl⟩
  simp only [go_sem, Nat.reduceAdd, Nat.reduceSub, Nat.reduceLeDiff, Nat.reduceMul, Nat.reduceLT, Nat.reduceEqDiff, Int.reduceLT, Int.reduceLE, Int.reduceAdd, Int.reduceSub, Int.reduceMul, Int.reduceToNat, reduceIte, reduceCtorEq, Nat.reduceBEq, rr43, lw_plain]
theorem add_ (hG : G 0 = tbl) (A B : Nat) (hA : A < 115792089237316195423570985008687907853269984665640564039457584007913129639936) (hB : B < 115792089237316195423570985008687907853269984665640564039457584007913129639936) {h : Heap} {R : V → Heap → Prop} (hQ : R (lw ((A + B) % ell)) h) : VCall Tryd.prog G 28 [lw A, lw B] h R := by
  refine vcall_plain (Q := fun v => v = lw ((A + B) % ell)) ?_ (fun g => by simp only [rens, lw_plain]) (fun v g hv => by subst hv; exact lw_plain _ g) (fun v hv => by subst hv; exact hQ)
  have h2 : ell + ell < 115792089237316195423570985008687907853269984665640564039457584007913129639936 := by decide
  have ha := mod_lt' A
  have hb' := mod_lt' B
  refine vcall_body Tryd.func28 nm28 code28 nt28 ?_
  refine run_driveS 80 ?_
  simp only [go_sem, Nat.reduceAdd, Nat.reduceSub, Nat.reduceLeDiff, Nat.reduceMul, Nat.reduceLT, Nat.reduceEqDiff, Int.reduceLT, Int.reduceLE, Int.reduceAdd, Int.reduceSub, Int.reduceMul, Int.reduceToNat, reduceIte, reduceCtorEq, Nat.reduceBEq, v28, v28_0]
  refine run_drw (by kernel_rfl) ?_
  refine drun_drive 40 (p := (_, _)) ?_
  simp only [go_sem, Nat.reduceAdd, Nat.reduceSub, Nat.reduceLeDiff, Nat.reduceMul, Nat.reduceLT, Nat.reduceEqDiff, Int.reduceLT, Int.reduceLE, Int.reduceAdd, Int.reduceSub, Int.reduceMul, Int.reduceToNat, reduceIte, reduceCtorEq, Nat.reduceBEq, v28_1]
  refine drun_call' ?_
  simp only [go_sem, Nat.reduceAdd, Nat.reduceSub, Nat.reduceLeDiff, Nat.reduceMul, Nat.reduceLT, Nat.reduceEqDiff, Int.reduceLT, Int.reduceLE, Int.reduceAdd, Int.reduceSub, Int.reduceMul, Int.reduceToNat, reduceIte, reduceCtorEq, Nat.reduceBEq, calV]
  refine least' hG A hA ?_
  refine drun_drive 40 (p := (_, _)) ?_
  simp only [go_sem, Nat.reduceAdd, Nat.reduceSub, Nat.reduceLeDiff, Nat.reduceMul, Nat.reduceLT, Nat.reduceEqDiff, Int.reduceLT, Int.reduceLE, Int.reduceAdd, Int.reduceSub, Int.reduceMul, Int.reduceToNat, reduceIte, reduceCtorEq, Nat.reduceBEq]
  refine drun_call' ?_
  simp only [go_sem, Nat.reduceAdd, Nat.reduceSub, Nat.reduceLeDiff, Nat.reduceMul, Nat.reduceLT, Nat.reduceEqDiff, Int.reduceLT, Int.reduceLE, Int.reduceAdd, Int.reduceSub, Int.reduceMul, Int.reduceToNat, reduceIte, reduceCtorEq, Nat.reduceBEq, calV]
  refine least' hG B hB ?_
  refine drun_drive 40 (p := (_, _)) ?_
  simp only [go_sem, Nat.reduceAdd, Nat.reduceSub, Nat.reduceLeDiff, Nat.reduceMul, Nat.reduceLT, Nat.reduceEqDiff, Int.reduceLT, Int.reduceLE, Int.reduceAdd, Int.reduceSub, Int.reduceMul, Int.reduceToNat, reduceIte, reduceCtorEq, Nat.reduceBEq]
  refine drun_call' ?_
  simp only [go_sem, Nat.reduceAdd, Nat.reduceSub, Nat.reduceLeDiff, Nat.reduceMul, Nat.reduceLT, Nat.reduceEqDiff, Int.reduceLT, Int.reduceLE, Int.reduceAdd, Int.reduceSub, Int.reduceMul, Int.reduceToNat, reduceIte, reduceCtorEq, Nat.reduceBEq, calV]
  refine plus' _ _ (mod_lt A) (mod_lt B) fun D b hD hb he => ?_
  unfold u
  refine drun_drive 40 (p := (_, _)) ?_
  simp only [go_sem, Nat.reduceAdd, Nat.reduceSub, Nat.reduceLeDiff, Nat.reduceMul, Nat.reduceLT, Nat.reduceEqDiff, Int.reduceLT, Int.reduceLE, Int.reduceAdd, Int.reduceSub, Int.reduceMul, Int.reduceToNat, reduceIte, reduceCtorEq, Nat.reduceBEq]
  refine drun_end ?_
  refine run_driveS 80 ?_
  simp only [go_sem, Nat.reduceAdd, Nat.reduceSub, Nat.reduceLeDiff, Nat.reduceMul, Nat.reduceLT, Nat.reduceEqDiff, Int.reduceLT, Int.reduceLE, Int.reduceAdd, Int.reduceSub, Int.reduceMul, Int.reduceToNat, reduceIte, reduceCtorEq, Nat.reduceBEq, v28_2]
  refine run_call' rfl ?_
  simp only [go_sem, Nat.reduceAdd, Nat.reduceSub, Nat.reduceLeDiff, Nat.reduceMul, Nat.reduceLT, Nat.reduceEqDiff, Int.reduceLT, Int.reduceLE, Int.reduceAdd, Int.reduceSub, Int.reduceMul, Int.reduceToNat, reduceIte, reduceCtorEq, Nat.reduceBEq, calV]
  refine lower' hG D hD ?_
  have hR : (if ell ≤ D then D - ell else D) = (A + B) % ell := by
    have e1 : (A + B) % ell = (A % ell + B % ell) % ell := Nat.add_mod A B ell
    rw [e1]
    have hb0 : b = 0 := by omega
    subst hb0
    by_cases h1 : ell ≤ D
    · rw [if_pos h1, Nat.mod_eq_sub_mod (by omega), Nat.mod_eq_of_lt (by omega)]; omega
    · rw [if_neg h1, Nat.mod_eq_of_lt (by omega)]; omega
  rw [hR]
  refine run_driveS 80 ?_
  simp only [go_sem, Nat.reduceAdd, Nat.reduceSub, Nat.reduceLeDiff, Nat.reduceMul, Nat.reduceLT, Nat.reduceEqDiff, Int.reduceLT, Int.reduceLE, Int.reduceAdd, Int.reduceSub, Int.reduceMul, Int.reduceToNat, reduceIte, reduceCtorEq, Nat.reduceBEq]
  refine run_ret_drop Tryd.func28 res28 [] (lw ((A + B) % ell)) [] rfl (by simp) trivial (by simp [uniq]) ?_ ⟨rfl, rfl⟩
  simp only [go_sem, Nat.reduceAdd, Nat.reduceSub, Nat.reduceLeDiff, Nat.reduceMul, Nat.reduceLT, Nat.reduceEqDiff, Int.reduceLT, Int.reduceLE, Int.reduceAdd, Int.reduceSub, Int.reduceMul, Int.reduceToNat, reduceIte, reduceCtorEq, Nat.reduceBEq, rr28, lw_plain]
end
section
attribute [local go_sem ↓] lc_len lc_take lc_drop lc_known lc_one lc_rens lc_cells lw_known lw_agg lw_asG scs_known scs_one scs_len
set_option maxRecDepth 100000
set_option maxHeartbeats 1000000
theorem lc_take_add (a k : Nat) (l : List V) : (lc a ++ l).take (k + 4) = lc a ++ l.take k := rfl
theorem lc_drop_add (a k : Nat) (l : List V) : (lc a ++ l).drop (k + 4) = l.drop k := rfl
attribute [local go_sem ↓] lc_take_add lc_drop_add
attribute [local go_sem] bool_tf bool_ft
def stL (P Q : Nat) (g h : V) : V := .agg (lc P ++ (lc Q ++ [g, h]))
def arL (l r : V) (a b : Nat) : V := .agg (l :: r :: (lc a ++ lc b))
theorem stL_ren (P Q : Nat) (x y : V) (g : Nat → Nat) : ren g (stL P Q x y) = stL P Q (ren g x) (ren g y) := by simp only [stL, ren, rens_append, lc_rens, rens]
theorem arL_ren (x y : V) (a b : Nat) (g : Nat → Nat) : ren g (arL x y a b) = arL (ren g x) (ren g y) a b := by simp only [arL, ren, rens_append, lc_rens, rens]
theorem pow_inj {a b : Nat} (h : 2 ^ a = 2 ^ b) : a = b := by
  rcases Nat.lt_trichotomy a b with h1 | h1 | h1
  · have := Nat.pow_lt_pow_right (a := 2) (by decide) h1; omega
  · exact h1
  · have := Nat.pow_lt_pow_right (a := 2) (by decide) h1; omega
def Fit (nG nH nL nR nU k : Nat) : Prop := nG = 2 ^ k ∧ k ≤ 10 ∧ nH = nG ∧ nL = k ∧ nR = k ∧ nU = k
def fv (n : Nat) (c : Cap) (i : Nat) : List V := [.unk, .unk, .sl 0 0 n c] ++ List.replicate 46 .unk ++ [.sl 0 0 n c, .int .i64 n, .int .i64 i] ++ List.replicate 6 .unk
theorem fits_loop_p (hG : G 0 = tbl) (us : Nat → Nat) (hus : ∀ j, us j < 115792089237316195423570985008687907853269984665640564039457584007913129639936) (rest : List V) (hrest : ∀ g, rens g rest = rest) (n : Nat) (hn : n < 1000000) (c : Cap) {Q : V → Heap → Prop} (hQ0 : (∀ j, j < n → us j % ell ≠ 0) → Q (.int .i64 0) [some ⟨.ro, scs n us ++ rest⟩, none, none, none, none]) (hQ4 : (∃ j, j < n ∧ us j % ell = 0) → Q (.int .i64 4) [some ⟨.ro, scs n us ++ rest⟩, none, none, none, none]) : ∀ m i, i + m = n → (∀ j, j < i → us j % ell ≠ 0) →
    Run Tryd.prog G 41 5 Q ([.l v41_11, .b 0, .c (.seq (.reg v41_13) .ret)], ⟨fv n c i, [some ⟨.ro, scs n us ++ rest⟩, none, none, none, none]⟩)
  | 0, i, h, hz => by
    obtain rfl : i = n := by omega
    have hft : ∀ g, fit g (scs i us ++ rest) (scs i us ++ rest) := fun g => fit_same (by rw [rens_append, scs_rens, hrest])
    have h0 : ((i : Int) < (i : Int)) = False := eq_false (by omega)
    unfold fv
    refine run_loop_eq v41_11.eq_1 ?_
    refine run_driveS 80 ?_
    simp only [go_sem, Nat.reduceAdd, Nat.reduceSub, Nat.reduceLeDiff, Nat.reduceMul, Nat.reduceLT, Nat.reduceEqDiff, Int.reduceLT, Int.reduceLE, Int.reduceAdd, Int.reduceSub, Int.reduceMul, Int.reduceToNat, reduceIte, reduceCtorEq, Nat.reduceBEq, v41_5, h0]
    refine run_exit rfl ?_
    refine run_driveS 80 ?_
    simp only [go_sem, Nat.reduceAdd, Nat.reduceSub, Nat.reduceLeDiff, Nat.reduceMul, Nat.reduceLT, Nat.reduceEqDiff, Int.reduceLT, Int.reduceLE, Int.reduceAdd, Int.reduceSub, Int.reduceMul, Int.reduceToNat, reduceIte, reduceCtorEq, Nat.reduceBEq, v41_13]
    refine run_ret_drop Tryd.func41 res41 [0, 1, 2, 3, 4] (.int .i64 0) _ rfl (by simp) ?_ ?_ ?_ (hQ0 hz)
    · simp only [go_sem, Nat.reduceAdd, Nat.reduceSub, Nat.reduceLeDiff, Nat.reduceMul, Nat.reduceLT, Nat.reduceEqDiff, Int.reduceLT, Int.reduceLE, Int.reduceAdd, Int.reduceSub, Int.reduceMul, Int.reduceToNat, reduceIte, reduceCtorEq, Nat.reduceBEq, hfit, lc_fit, scs_fit, fit, ren, gmap, lw_plain, true_or, or_true, hft]
    · simp [uniq, wrB]
    · simp only [go_sem, Nat.reduceAdd, Nat.reduceSub, Nat.reduceLeDiff, Nat.reduceMul, Nat.reduceLT, Nat.reduceEqDiff, Int.reduceLT, Int.reduceLE, Int.reduceAdd, Int.reduceSub, Int.reduceMul, Int.reduceToNat, reduceIte, reduceCtorEq, Nat.reduceBEq, rr41, ren]
  | m + 1, i, h, hz => by
    have ih := fits_loop_p hG us hus rest hrest n hn c hQ0 hQ4 m (i + 1) (by omega)
    have hft : ∀ g, fit g (scs n us ++ rest) (scs n us ++ rest) := fun g => fit_same (by rw [rens_append, scs_rens, hrest])
    have h0 : ((i : Int) < (n : Int)) = True := eq_true (by omega)
    have hg := scs_get n us rest (i := i) (by omega)
    have hw : IntKind.i64.wrap ((i : Int) + 1) = ((i + 1 : Nat) : Int) := by rw [wrap_i64 (by omega) (by omega)]; omega
    unfold fv at ih ⊢
    refine run_loop_eq v41_11.eq_1 ?_
    refine run_driveS 80 ?_
    simp only [go_sem, Nat.reduceAdd, Nat.reduceSub, Nat.reduceLeDiff, Nat.reduceMul, Nat.reduceLT, Nat.reduceEqDiff, Int.reduceLT, Int.reduceLE, Int.reduceAdd, Int.reduceSub, Int.reduceMul, Int.reduceToNat, reduceIte, reduceCtorEq, Nat.reduceBEq, v41_5, v41_9, v41_6, v41_7, h0, hg]
    refine run_call' rfl ?_
    simp only [go_sem, Nat.reduceAdd, Nat.reduceSub, Nat.reduceLeDiff, Nat.reduceMul, Nat.reduceLT, Nat.reduceEqDiff, Int.reduceLT, Int.reduceLE, Int.reduceAdd, Int.reduceSub, Int.reduceMul, Int.reduceToNat, reduceIte, reduceCtorEq, Nat.reduceBEq, calV]
    refine is_zero' hG _ (hus i) ?_
    refine run_driveS 80 ?_
    simp only [go_sem, Nat.reduceAdd, Nat.reduceSub, Nat.reduceLeDiff, Nat.reduceMul, Nat.reduceLT, Nat.reduceEqDiff, Int.reduceLT, Int.reduceLE, Int.reduceAdd, Int.reduceSub, Int.reduceMul, Int.reduceToNat, reduceIte, reduceCtorEq, Nat.reduceBEq]
    by_cases hz' : us i % ell = 0
    · refine run_cond_t (by simp only [go_sem, Nat.reduceAdd, Nat.reduceSub, Nat.reduceLeDiff, Nat.reduceMul, Nat.reduceLT, Nat.reduceEqDiff, Int.reduceLT, Int.reduceLE, Int.reduceAdd, Int.reduceSub, Int.reduceMul, Int.reduceToNat, reduceIte, reduceCtorEq, Nat.reduceBEq, decide_eq_true hz']) ?_
      refine run_driveS 80 ?_
      simp only [go_sem, Nat.reduceAdd, Nat.reduceSub, Nat.reduceLeDiff, Nat.reduceMul, Nat.reduceLT, Nat.reduceEqDiff, Int.reduceLT, Int.reduceLE, Int.reduceAdd, Int.reduceSub, Int.reduceMul, Int.reduceToNat, reduceIte, reduceCtorEq, Nat.reduceBEq, v41_8]
      refine run_ret_drop Tryd.func41 res41 [0, 1, 2, 3, 4] (.int .i64 4) _ rfl (by simp) ?_ ?_ ?_ (hQ4 ⟨i, by omega, hz'⟩)
      · simp only [go_sem, Nat.reduceAdd, Nat.reduceSub, Nat.reduceLeDiff, Nat.reduceMul, Nat.reduceLT, Nat.reduceEqDiff, Int.reduceLT, Int.reduceLE, Int.reduceAdd, Int.reduceSub, Int.reduceMul, Int.reduceToNat, reduceIte, reduceCtorEq, Nat.reduceBEq, hfit, lc_fit, scs_fit, fit, ren, gmap, lw_plain, true_or, or_true, hft]
      · simp [uniq, wrB]
      · simp only [go_sem, Nat.reduceAdd, Nat.reduceSub, Nat.reduceLeDiff, Nat.reduceMul, Nat.reduceLT, Nat.reduceEqDiff, Int.reduceLT, Int.reduceLE, Int.reduceAdd, Int.reduceSub, Int.reduceMul, Int.reduceToNat, reduceIte, reduceCtorEq, Nat.reduceBEq, rr41, ren]
    · refine run_cond_f (by simp only [go_sem, Nat.reduceAdd, Nat.reduceSub, Nat.reduceLeDiff, Nat.reduceMul, Nat.reduceLT, Nat.reduceEqDiff, Int.reduceLT, Int.reduceLE, Int.reduceAdd, Int.reduceSub, Int.reduceMul, Int.reduceToNat, reduceIte, reduceCtorEq, Nat.reduceBEq, decide_eq_false hz']) ?_
      refine run_driveS 80 ?_
      simp only [go_sem, Nat.reduceAdd, Nat.reduceSub, Nat.reduceLeDiff, Nat.reduceMul, Nat.reduceLT, Nat.reduceEqDiff, Int.reduceLT, Int.reduceLE, Int.reduceAdd, Int.reduceSub, Int.reduceMul, Int.reduceToNat, reduceIte, reduceCtorEq, Nat.reduceBEq, v41_10, hw]
      refine run_rename [0, 1, 2, 3, 4] rfl (by simp) ?_ ?_ ?_ (ih (fun j hj => by
        by_cases e : j = i
        · subst e; exact hz'
        · exact hz j (by omega)))
      · simp only [go_sem, Nat.reduceAdd, Nat.reduceSub, Nat.reduceLeDiff, Nat.reduceMul, Nat.reduceLT, Nat.reduceEqDiff, Int.reduceLT, Int.reduceLE, Int.reduceAdd, Int.reduceSub, Int.reduceMul, Int.reduceToNat, reduceIte, reduceCtorEq, Nat.reduceBEq, hfit, lc_fit, scs_fit, fit, ren, gmap, lw_plain, true_or, or_true, hft]
      · simp [uniq, wrB]
      · simp only [go_sem, Nat.reduceAdd, Nat.reduceSub, Nat.reduceLeDiff, Nat.reduceMul, Nat.reduceLT, Nat.reduceEqDiff, Int.reduceLT, Int.reduceLE, Int.reduceAdd, Int.reduceSub, Int.reduceMul, Int.reduceToNat, reduceIte, reduceCtorEq, Nat.reduceBEq, hfit, lc_fit, scs_fit, fit, ren, gmap, lw_plain, true_or, or_true]
theorem fits_p (hG : G 0 = tbl) (P Q' a b nG nH nL nR nU : Nat) (hnG : nG < 1000000) (hnU : nU < 1000000) (c1 c2 c3 c4 c : Cap) (us : Nat → Nat) (hus : ∀ j, us j < 115792089237316195423570985008687907853269984665640564039457584007913129639936) (rest : List V) (hrest : ∀ g, rens g rest = rest) (Q : V → Heap → Prop)
    (hQ2 : (∀ k, ¬ Fit nG nH nL nR nU k) → Q (.int .i64 2) [some ⟨.ro, scs nU us ++ rest⟩, none, none, none, none])
    (hQ4 : ∀ k, Fit nG nH nL nR nU k → (∃ j, j < nU ∧ us j % ell = 0) → Q (.int .i64 4) [some ⟨.ro, scs nU us ++ rest⟩, none, none, none, none])
    (hQ0 : ∀ k, Fit nG nH nL nR nU k → (∀ j, j < nU → us j % ell ≠ 0) → Q (.int .i64 0) [some ⟨.ro, scs nU us ++ rest⟩, none, none, none, none]) :
    VCall Tryd.prog G 41 [stL P Q' (.sl 1 0 nG c1) (.sl 2 0 nH c2), arL (.sl 3 0 nL c3) (.sl 4 0 nR c4) a b, .sl 0 0 nU c] [some ⟨.ro, scs nU us ++ rest⟩, none, none, none, none] Q := by
  have hft : ∀ g, fit g (scs nU us ++ rest) (scs nU us ++ rest) := fun g => fit_same (by rw [rens_append, scs_rens, hrest])
  refine vcall_body Tryd.func41 nm41 code41 nt41 ?_
  unfold stL arL
  refine run_driveS 80 ?_
  simp only [go_sem, Nat.reduceAdd, Nat.reduceSub, Nat.reduceLeDiff, Nat.reduceMul, Nat.reduceLT, Nat.reduceEqDiff, Int.reduceLT, Int.reduceLE, Int.reduceAdd, Int.reduceSub, Int.reduceMul, Int.reduceToNat, reduceIte, reduceCtorEq, Nat.reduceBEq, v41, v41_0, v41_1]
  refine run_call' rfl ?_
  simp only [go_sem, Nat.reduceAdd, Nat.reduceSub, Nat.reduceLeDiff, Nat.reduceMul, Nat.reduceLT, Nat.reduceEqDiff, Int.reduceLT, Int.reduceLE, Int.reduceAdd, Int.reduceSub, Int.reduceMul, Int.reduceToNat, reduceIte, reduceCtorEq, Nat.reduceBEq, calV]
  refine rounds_ nG hnG (fun k hk e => ?_) (fun hz => ?_)
  · have uk : ∀ k', nG = 2 ^ k' → k' = k := fun k' e' => pow_inj (e'.symm.trans e)
    by_cases h1 : nH = nG
    case neg =>
      have d0 : decide (nH = nG) = false := decide_eq_false h1
      refine run_driveS 80 ?_
      simp only [go_sem, Nat.reduceAdd, Nat.reduceSub, Nat.reduceLeDiff, Nat.reduceMul, Nat.reduceLT, Nat.reduceEqDiff, Int.reduceLT, Int.reduceLE, Int.reduceAdd, Int.reduceSub, Int.reduceMul, Int.reduceToNat, reduceIte, reduceCtorEq, Nat.reduceBEq, v41_2, eq_int, d0]
      refine run_cond_t (by rfl) ?_
      refine run_driveS 80 ?_
      simp only [go_sem, Nat.reduceAdd, Nat.reduceSub, Nat.reduceLeDiff, Nat.reduceMul, Nat.reduceLT, Nat.reduceEqDiff, Int.reduceLT, Int.reduceLE, Int.reduceAdd, Int.reduceSub, Int.reduceMul, Int.reduceToNat, reduceIte, reduceCtorEq, Nat.reduceBEq, v41_3]
      refine run_ret_drop Tryd.func41 res41 [0, 1, 2, 3, 4] (.int .i64 2) _ rfl (by simp) ?_ ?_ ?_ (hQ2 fun k' f => h1 (by obtain ⟨f1, f2, f3, f4, f5, f6⟩ := f; have := uk k' f1; omega))
      · simp only [go_sem, Nat.reduceAdd, Nat.reduceSub, Nat.reduceLeDiff, Nat.reduceMul, Nat.reduceLT, Nat.reduceEqDiff, Int.reduceLT, Int.reduceLE, Int.reduceAdd, Int.reduceSub, Int.reduceMul, Int.reduceToNat, reduceIte, reduceCtorEq, Nat.reduceBEq, hfit, lc_fit, scs_fit, fit, ren, gmap, lw_plain, true_or, or_true, hft]
      · simp [uniq, wrB]
      · simp only [go_sem, Nat.reduceAdd, Nat.reduceSub, Nat.reduceLeDiff, Nat.reduceMul, Nat.reduceLT, Nat.reduceEqDiff, Int.reduceLT, Int.reduceLE, Int.reduceAdd, Int.reduceSub, Int.reduceMul, Int.reduceToNat, reduceIte, reduceCtorEq, Nat.reduceBEq, rr41, ren]
    have d0 : decide (nH = nG) = true := decide_eq_true h1
    by_cases h2 : nL = k
    case neg =>
      have d1 : decide (nL = k) = false := decide_eq_false h2
      refine run_driveS 80 ?_
      simp only [go_sem, Nat.reduceAdd, Nat.reduceSub, Nat.reduceLeDiff, Nat.reduceMul, Nat.reduceLT, Nat.reduceEqDiff, Int.reduceLT, Int.reduceLE, Int.reduceAdd, Int.reduceSub, Int.reduceMul, Int.reduceToNat, reduceIte, reduceCtorEq, Nat.reduceBEq, v41_2, eq_int, d0, d1]
      refine run_cond_t (by rfl) ?_
      refine run_driveS 80 ?_
      simp only [go_sem, Nat.reduceAdd, Nat.reduceSub, Nat.reduceLeDiff, Nat.reduceMul, Nat.reduceLT, Nat.reduceEqDiff, Int.reduceLT, Int.reduceLE, Int.reduceAdd, Int.reduceSub, Int.reduceMul, Int.reduceToNat, reduceIte, reduceCtorEq, Nat.reduceBEq, v41_3]
      refine run_ret_drop Tryd.func41 res41 [0, 1, 2, 3, 4] (.int .i64 2) _ rfl (by simp) ?_ ?_ ?_ (hQ2 fun k' f => h2 (by obtain ⟨f1, f2, f3, f4, f5, f6⟩ := f; have := uk k' f1; omega))
      · simp only [go_sem, Nat.reduceAdd, Nat.reduceSub, Nat.reduceLeDiff, Nat.reduceMul, Nat.reduceLT, Nat.reduceEqDiff, Int.reduceLT, Int.reduceLE, Int.reduceAdd, Int.reduceSub, Int.reduceMul, Int.reduceToNat, reduceIte, reduceCtorEq, Nat.reduceBEq, hfit, lc_fit, scs_fit, fit, ren, gmap, lw_plain, true_or, or_true, hft]
      · simp [uniq, wrB]
      · simp only [go_sem, Nat.reduceAdd, Nat.reduceSub, Nat.reduceLeDiff, Nat.reduceMul, Nat.reduceLT, Nat.reduceEqDiff, Int.reduceLT, Int.reduceLE, Int.reduceAdd, Int.reduceSub, Int.reduceMul, Int.reduceToNat, reduceIte, reduceCtorEq, Nat.reduceBEq, rr41, ren]
    have d1 : decide (nL = k) = true := decide_eq_true h2
    by_cases h3 : nR = k
    case neg =>
      have d2 : decide (nR = k) = false := decide_eq_false h3
      refine run_driveS 80 ?_
      simp only [go_sem, Nat.reduceAdd, Nat.reduceSub, Nat.reduceLeDiff, Nat.reduceMul, Nat.reduceLT, Nat.reduceEqDiff, Int.reduceLT, Int.reduceLE, Int.reduceAdd, Int.reduceSub, Int.reduceMul, Int.reduceToNat, reduceIte, reduceCtorEq, Nat.reduceBEq, v41_2, eq_int, d0, d1, d2]
      refine run_cond_t (by rfl) ?_
      refine run_driveS 80 ?_
      simp only [go_sem, Nat.reduceAdd, Nat.reduceSub, Nat.reduceLeDiff, Nat.reduceMul, Nat.reduceLT, Nat.reduceEqDiff, Int.reduceLT, Int.reduceLE, Int.reduceAdd, Int.reduceSub, Int.reduceMul, Int.reduceToNat, reduceIte, reduceCtorEq, Nat.reduceBEq, v41_3]
      refine run_ret_drop Tryd.func41 res41 [0, 1, 2, 3, 4] (.int .i64 2) _ rfl (by simp) ?_ ?_ ?_ (hQ2 fun k' f => h3 (by obtain ⟨f1, f2, f3, f4, f5, f6⟩ := f; have := uk k' f1; omega))
      · simp only [go_sem, Nat.reduceAdd, Nat.reduceSub, Nat.reduceLeDiff, Nat.reduceMul, Nat.reduceLT, Nat.reduceEqDiff, Int.reduceLT, Int.reduceLE, Int.reduceAdd, Int.reduceSub, Int.reduceMul, Int.reduceToNat, reduceIte, reduceCtorEq, Nat.reduceBEq, hfit, lc_fit, scs_fit, fit, ren, gmap, lw_plain, true_or, or_true, hft]
      · simp [uniq, wrB]
      · simp only [go_sem, Nat.reduceAdd, Nat.reduceSub, Nat.reduceLeDiff, Nat.reduceMul, Nat.reduceLT, Nat.reduceEqDiff, Int.reduceLT, Int.reduceLE, Int.reduceAdd, Int.reduceSub, Int.reduceMul, Int.reduceToNat, reduceIte, reduceCtorEq, Nat.reduceBEq, rr41, ren]
    have d2 : decide (nR = k) = true := decide_eq_true h3
    by_cases h4 : nU = k
    case neg =>
      have d3 : decide (nU = k) = false := decide_eq_false h4
      refine run_driveS 80 ?_
      simp only [go_sem, Nat.reduceAdd, Nat.reduceSub, Nat.reduceLeDiff, Nat.reduceMul, Nat.reduceLT, Nat.reduceEqDiff, Int.reduceLT, Int.reduceLE, Int.reduceAdd, Int.reduceSub, Int.reduceMul, Int.reduceToNat, reduceIte, reduceCtorEq, Nat.reduceBEq, v41_2, eq_int, d0, d1, d2, d3]
      refine run_cond_t (by rfl) ?_
      refine run_driveS 80 ?_
      simp only [go_sem, Nat.reduceAdd, Nat.reduceSub, Nat.reduceLeDiff, Nat.reduceMul, Nat.reduceLT, Nat.reduceEqDiff, Int.reduceLT, Int.reduceLE, Int.reduceAdd, Int.reduceSub, Int.reduceMul, Int.reduceToNat, reduceIte, reduceCtorEq, Nat.reduceBEq, v41_3]
      refine run_ret_drop Tryd.func41 res41 [0, 1, 2, 3, 4] (.int .i64 2) _ rfl (by simp) ?_ ?_ ?_ (hQ2 fun k' f => h4 (by obtain ⟨f1, f2, f3, f4, f5, f6⟩ := f; have := uk k' f1; omega))
      · simp only [go_sem, Nat.reduceAdd, Nat.reduceSub, Nat.reduceLeDiff, Nat.reduceMul, Nat.reduceLT, Nat.reduceEqDiff, Int.reduceLT, Int.reduceLE, Int.reduceAdd, Int.reduceSub, Int.reduceMul, Int.reduceToNat, reduceIte, reduceCtorEq, Nat.reduceBEq, hfit, lc_fit, scs_fit, fit, ren, gmap, lw_plain, true_or, or_true, hft]
      · simp [uniq, wrB]
      · simp only [go_sem, Nat.reduceAdd, Nat.reduceSub, Nat.reduceLeDiff, Nat.reduceMul, Nat.reduceLT, Nat.reduceEqDiff, Int.reduceLT, Int.reduceLE, Int.reduceAdd, Int.reduceSub, Int.reduceMul, Int.reduceToNat, reduceIte, reduceCtorEq, Nat.reduceBEq, rr41, ren]
    have d3 : decide (nU = k) = true := decide_eq_true h4
    refine run_driveS 80 ?_
    simp only [go_sem, Nat.reduceAdd, Nat.reduceSub, Nat.reduceLeDiff, Nat.reduceMul, Nat.reduceLT, Nat.reduceEqDiff, Int.reduceLT, Int.reduceLE, Int.reduceAdd, Int.reduceSub, Int.reduceMul, Int.reduceToNat, reduceIte, reduceCtorEq, Nat.reduceBEq, v41_2, eq_int, d0, d1, d2, d3]
    refine run_cond_f (by rfl) ?_
    refine run_driveS 80 ?_
    simp only [go_sem, Nat.reduceAdd, Nat.reduceSub, Nat.reduceLeDiff, Nat.reduceMul, Nat.reduceLT, Nat.reduceEqDiff, Int.reduceLT, Int.reduceLE, Int.reduceAdd, Int.reduceSub, Int.reduceMul, Int.reduceToNat, reduceIte, reduceCtorEq, Nat.reduceBEq, v41_4, v41_12]
    refine run_rename [0, 1, 2, 3, 4] rfl (by simp) ?_ ?_ ?_ (fits_loop_p hG us hus rest hrest nU hnU c (hQ0 k ⟨e, hk, h1, h2, h3, h4⟩) (hQ4 k ⟨e, hk, h1, h2, h3, h4⟩) nU 0 (by omega) (fun j hj => by omega))
    · simp only [go_sem, Nat.reduceAdd, Nat.reduceSub, Nat.reduceLeDiff, Nat.reduceMul, Nat.reduceLT, Nat.reduceEqDiff, Int.reduceLT, Int.reduceLE, Int.reduceAdd, Int.reduceSub, Int.reduceMul, Int.reduceToNat, reduceIte, reduceCtorEq, Nat.reduceBEq, hfit, lc_fit, scs_fit, fit, ren, gmap, lw_plain, true_or, or_true, hft]
    · simp [uniq, wrB]
    · unfold fv
      simp only [go_sem, Nat.reduceAdd, Nat.reduceSub, Nat.reduceLeDiff, Nat.reduceMul, Nat.reduceLT, Nat.reduceEqDiff, Int.reduceLT, Int.reduceLE, Int.reduceAdd, Int.reduceSub, Int.reduceMul, Int.reduceToNat, reduceIte, reduceCtorEq, Nat.reduceBEq, hfit, lc_fit, scs_fit, fit, ren, gmap, lw_plain, true_or, or_true]
  · refine run_driveS 80 ?_
    simp only [go_sem, Nat.reduceAdd, Nat.reduceSub, Nat.reduceLeDiff, Nat.reduceMul, Nat.reduceLT, Nat.reduceEqDiff, Int.reduceLT, Int.reduceLE, Int.reduceAdd, Int.reduceSub, Int.reduceMul, Int.reduceToNat, reduceIte, reduceCtorEq, Nat.reduceBEq, v41_2]
    refine run_cond_t (by rfl) ?_
    refine run_driveS 80 ?_
    simp only [go_sem, Nat.reduceAdd, Nat.reduceSub, Nat.reduceLeDiff, Nat.reduceMul, Nat.reduceLT, Nat.reduceEqDiff, Int.reduceLT, Int.reduceLE, Int.reduceAdd, Int.reduceSub, Int.reduceMul, Int.reduceToNat, reduceIte, reduceCtorEq, Nat.reduceBEq, v41_3]
    refine run_ret_drop Tryd.func41 res41 [0, 1, 2, 3, 4] (.int .i64 2) _ rfl (by simp) ?_ ?_ ?_ (hQ2 fun k' f => hz k' f.2.1 f.1)
    · simp only [go_sem, Nat.reduceAdd, Nat.reduceSub, Nat.reduceLeDiff, Nat.reduceMul, Nat.reduceLT, Nat.reduceEqDiff, Int.reduceLT, Int.reduceLE, Int.reduceAdd, Int.reduceSub, Int.reduceMul, Int.reduceToNat, reduceIte, reduceCtorEq, Nat.reduceBEq, hfit, lc_fit, scs_fit, fit, ren, gmap, lw_plain, true_or, or_true, hft]
    · simp [uniq, wrB]
    · simp only [go_sem, Nat.reduceAdd, Nat.reduceSub, Nat.reduceLeDiff, Nat.reduceMul, Nat.reduceLT, Nat.reduceEqDiff, Int.reduceLT, Int.reduceLE, Int.reduceAdd, Int.reduceSub, Int.reduceMul, Int.reduceToNat, reduceIte, reduceCtorEq, Nat.reduceBEq, rr41, ren]
end
section
attribute [local go_sem ↓] lc_len lc_take lc_drop lc_known lc_one lc_rens lc_cells lw_known lw_agg lw_asG
attribute [local go_sem] lt_nat lt_natl lt_lnat lt_ll
set_option maxRecDepth 100000
set_option maxHeartbeats 1000000
theorem cut_nil {h : Heap} {Q : V → Heap → Prop} (hQ : Q .nils h) : VCall Tryd.prog G 45 [.nils] h Q := by
  refine vcall_body Tryd.func45 nm45 code45 nt45 ?_
  refine run_driveS 80 ?_
  simp only [go_sem, Nat.reduceAdd, Nat.reduceSub, Nat.reduceLeDiff, Nat.reduceMul, Nat.reduceLT, Nat.reduceEqDiff, Int.reduceLT, Int.reduceLE, Int.reduceAdd, Int.reduceSub, Int.reduceMul, Int.reduceToNat, reduceIte, reduceCtorEq, Nat.reduceBEq, v45, v45_0, v45_1]
  refine run_cond_f (by rfl) ?_
  refine run_driveS 80 ?_
  simp only [go_sem, Nat.reduceAdd, Nat.reduceSub, Nat.reduceLeDiff, Nat.reduceMul, Nat.reduceLT, Nat.reduceEqDiff, Int.reduceLT, Int.reduceLE, Int.reduceAdd, Int.reduceSub, Int.reduceMul, Int.reduceToNat, reduceIte, reduceCtorEq, Nat.reduceBEq, v45_3]
  refine run_ret' Tryd.func45 res45 ?_
  simp only [go_sem, Nat.reduceAdd, Nat.reduceSub, Nat.reduceLeDiff, Nat.reduceMul, Nat.reduceLT, Nat.reduceEqDiff, Int.reduceLT, Int.reduceLE, Int.reduceAdd, Int.reduceSub, Int.reduceMul, Int.reduceToNat, reduceIte, reduceCtorEq, Nat.reduceBEq, rr45]
  exact hQ
theorem cut_sl (i n m : Nat) (hn : n ≤ m) {h : Heap} {Q : V → Heap → Prop} (h1 : n ≤ 2100 → Q (.sl i 0 n (.exact m)) h) (h2 : 2100 < n → Q (.sl i 0 2100 (.exact m)) h) : VCall Tryd.prog G 45 [.sl i 0 n (.exact m)] h Q := by
  refine vcall_body Tryd.func45 nm45 code45 nt45 ?_
  refine run_driveS 80 ?_
  simp only [go_sem, Nat.reduceAdd, Nat.reduceSub, Nat.reduceLeDiff, Nat.reduceMul, Nat.reduceLT, Nat.reduceEqDiff, Int.reduceLT, Int.reduceLE, Int.reduceAdd, Int.reduceSub, Int.reduceMul, Int.reduceToNat, reduceIte, reduceCtorEq, Nat.reduceBEq, v45, v45_0, v45_1]
  by_cases hb : 2100 < n
  · have hd : ((2100 : Int) < (n : Int)) = True := eq_true (by omega)
    have hm : ((2100 : Int) ≤ (m : Int)) = True := eq_true (by omega)
    refine run_cond_t (by simp only [go_sem, Nat.reduceAdd, Nat.reduceSub, Nat.reduceLeDiff, Nat.reduceMul, Nat.reduceLT, Nat.reduceEqDiff, Int.reduceLT, Int.reduceLE, Int.reduceAdd, Int.reduceSub, Int.reduceMul, Int.reduceToNat, reduceIte, reduceCtorEq, Nat.reduceBEq, hd]) ?_
    refine run_driveS 80 ?_
    simp only [go_sem, Nat.reduceAdd, Nat.reduceSub, Nat.reduceLeDiff, Nat.reduceMul, Nat.reduceLT, Nat.reduceEqDiff, Int.reduceLT, Int.reduceLE, Int.reduceAdd, Int.reduceSub, Int.reduceMul, Int.reduceToNat, reduceIte, reduceCtorEq, Nat.reduceBEq, v45_2, hm]
    refine run_ret' Tryd.func45 res45 ?_
    simp only [go_sem, Nat.reduceAdd, Nat.reduceSub, Nat.reduceLeDiff, Nat.reduceMul, Nat.reduceLT, Nat.reduceEqDiff, Int.reduceLT, Int.reduceLE, Int.reduceAdd, Int.reduceSub, Int.reduceMul, Int.reduceToNat, reduceIte, reduceCtorEq, Nat.reduceBEq, rr45]
    have := h2 hb
    simpa using this
  · have hd : ((2100 : Int) < (n : Int)) = False := eq_false (by omega)
    refine run_cond_f (by simp only [go_sem, Nat.reduceAdd, Nat.reduceSub, Nat.reduceLeDiff, Nat.reduceMul, Nat.reduceLT, Nat.reduceEqDiff, Int.reduceLT, Int.reduceLE, Int.reduceAdd, Int.reduceSub, Int.reduceMul, Int.reduceToNat, reduceIte, reduceCtorEq, Nat.reduceBEq, hd]) ?_
    refine run_driveS 80 ?_
    simp only [go_sem, Nat.reduceAdd, Nat.reduceSub, Nat.reduceLeDiff, Nat.reduceMul, Nat.reduceLT, Nat.reduceEqDiff, Int.reduceLT, Int.reduceLE, Int.reduceAdd, Int.reduceSub, Int.reduceMul, Int.reduceToNat, reduceIte, reduceCtorEq, Nat.reduceBEq, v45_3]
    refine run_ret' Tryd.func45 res45 ?_
    simp only [go_sem, Nat.reduceAdd, Nat.reduceSub, Nat.reduceLeDiff, Nat.reduceMul, Nat.reduceLT, Nat.reduceEqDiff, Int.reduceLT, Int.reduceLE, Int.reduceAdd, Int.reduceSub, Int.reduceMul, Int.reduceToNat, reduceIte, reduceCtorEq, Nat.reduceBEq, rr45]
    exact h1 (by omega)
theorem cut_sl' (i n m : Nat) (hn : n ≤ m) {h : Heap} {Q : V → Heap → Prop} (hQ : Q (.sl i 0 (min n 2100) (.exact m)) h) : VCall Tryd.prog G 45 [.sl i 0 n (.exact m)] h Q :=
  cut_sl i n m hn (fun h => by rwa [Nat.min_eq_left h] at hQ) (fun h => by rwa [Nat.min_eq_right (Nat.le_of_lt h)] at hQ)
inductive In (f : Nat → Nat) : Nat → V → Option Blk → Prop
  | nil : In f 0 .nils none
  | sl (n m : Nat) (h : n ≤ m) : In f n (.sl 0 0 n (.exact m)) (some ⟨.ro, scs n f⟩)
def scv (n i : Nat) (uv : V) : List V := [uv, .unk, .nils, .sl 1 0 (n + 1) (.exact (n + 1)), .int .i64 i] ++ List.replicate 28 .unk
def sch (b0 : Option Blk) (f : Nat → Nat) (n i : Nat) : Heap := [b0, some ⟨.rw, scs (n + 1) fun j => if j < i then f j else 0⟩]
theorem scalars_loop (f : Nat → Nat) (N m n : Nat) (hN : n ≤ N) (hn : n ≤ 2100) {Q : V → Heap → Prop} {K : List TI}
    (hK : Run Tryd.prog G 10 1 Q (K, ⟨scv n n (.sl 0 0 n (.exact m)), sch (some ⟨.ro, scs N f⟩) f n n⟩)) : ∀ k i, i + k = n → Run Tryd.prog G 10 1 Q (.l v10_8 :: .b 0 :: K, ⟨scv n i (.sl 0 0 n (.exact m)), sch (some ⟨.ro, scs N f⟩) f n i⟩)
  | 0, i, h => by
    obtain rfl : i = n := by omega
    have h0 : ((i : Int) < (i : Int)) = False := eq_false (by omega)
    unfold scv sch
    refine run_loop_eq v10_8.eq_1 ?_
    refine run_driveS 80 ?_
    simp only [go_sem, Nat.reduceAdd, Nat.reduceSub, Nat.reduceLeDiff, Nat.reduceMul, Nat.reduceLT, Nat.reduceEqDiff, Int.reduceLT, Int.reduceLE, Int.reduceAdd, Int.reduceSub, Int.reduceMul, Int.reduceToNat, reduceIte, reduceCtorEq, Nat.reduceBEq, v10_4, h0]
    refine run_exit rfl ?_
    refine run_rename [0, 1] rfl (by simp) ?_ ?_ ?_ hK
    · unfold sch
      simp only [go_sem, Nat.reduceAdd, Nat.reduceSub, Nat.reduceLeDiff, Nat.reduceMul, Nat.reduceLT, Nat.reduceEqDiff, Int.reduceLT, Int.reduceLE, Int.reduceAdd, Int.reduceSub, Int.reduceMul, Int.reduceToNat, reduceIte, reduceCtorEq, Nat.reduceBEq, hfit, lc_fit, scs_fit, fit, ren, gmap, lw_plain, true_or, or_true]
    · simp [uniq, sch, wrB]
    · unfold scv
      simp only [go_sem, Nat.reduceAdd, Nat.reduceSub, Nat.reduceLeDiff, Nat.reduceMul, Nat.reduceLT, Nat.reduceEqDiff, Int.reduceLT, Int.reduceLE, Int.reduceAdd, Int.reduceSub, Int.reduceMul, Int.reduceToNat, reduceIte, reduceCtorEq, Nat.reduceBEq, hfit, lc_fit, scs_fit, fit, ren, gmap, lw_plain, true_or, or_true]
  | k + 1, i, h => by
    have ih := scalars_loop f N m n hN hn hK k (i + 1) (by omega)
    have h0 : ((i : Int) < (n : Int)) = True := eq_true (by omega)
    have h1 : ((i : Int) < ((n + 1 : Nat) : Int)) = True := eq_true (by omega)
    have hg := scs_get' N f (i := i) (by omega)
    have hin := scs_in (n + 1) (fun j => if j < i then f j else 0) (i := i) (by omega)
    have hset := scs_set (n + 1) (fun j => if j < i then f j else 0) (fun j => if j < i + 1 then f j else 0) (i := i) (v := f i) (by omega) (by rw [if_pos (by omega)]) (fun j _ hj => by by_cases h1 : j < i <;> simp [h1] <;> omega)
    have hw : IntKind.i64.wrap ((i : Int) + 1) = ((i + 1 : Nat) : Int) := by rw [wrap_i64 (by omega) (by omega)]; omega
    unfold scv sch
    refine run_loop_eq v10_8.eq_1 ?_
    refine run_driveS 80 ?_
    simp only [go_sem, Nat.reduceAdd, Nat.reduceSub, Nat.reduceLeDiff, Nat.reduceMul, Nat.reduceLT, Nat.reduceEqDiff, Int.reduceLT, Int.reduceLE, Int.reduceAdd, Int.reduceSub, Int.reduceMul, Int.reduceToNat, reduceIte, reduceCtorEq, Nat.reduceBEq, v10_4, v10_6, v10_5, v10_7, h0, h1, hg, hin, hset, hw]
    refine run_rename [0, 1] rfl (by simp) ?_ ?_ ?_ ih
    · unfold sch
      simp only [go_sem, Nat.reduceAdd, Nat.reduceSub, Nat.reduceLeDiff, Nat.reduceMul, Nat.reduceLT, Nat.reduceEqDiff, Int.reduceLT, Int.reduceLE, Int.reduceAdd, Int.reduceSub, Int.reduceMul, Int.reduceToNat, reduceIte, reduceCtorEq, Nat.reduceBEq, hfit, lc_fit, scs_fit, fit, ren, gmap, lw_plain, true_or, or_true]
    · simp [uniq, sch, wrB]
    · unfold scv
      simp only [go_sem, Nat.reduceAdd, Nat.reduceSub, Nat.reduceLeDiff, Nat.reduceMul, Nat.reduceLT, Nat.reduceEqDiff, Int.reduceLT, Int.reduceLE, Int.reduceAdd, Int.reduceSub, Int.reduceMul, Int.reduceToNat, reduceIte, reduceCtorEq, Nat.reduceBEq, hfit, lc_fit, scs_fit, fit, ren, gmap, lw_plain, true_or, or_true]
theorem scalars (f : Nat → Nat) (N n : Nat) (uv : V) (b0 : Option Blk) (hi : In f N uv b0) (hn : n = min N 2100) (Q : V → Heap → Prop) (hQ : Q (.sl 1 0 n (.exact (n + 1))) [b0, some ⟨.rw, scs n f ++ lc 78⟩]) : VCall Tryd.prog G 10 [uv] [b0] Q := by
  have hend : (scs (n + 1) fun j => if j < n + 1 then (if j < n then f j else 78) else 0) = scs n f ++ lc 78 := by
    show (scs n fun j => if j < n + 1 then (if j < n then f j else 78) else 0) ++ lc (if n < n + 1 then (if n < n then f n else 78) else 0) = _
    rw [if_pos (by omega), if_neg (by omega)]
    congr 1
    exact scs_congr fun j hj => by rw [if_pos (by omega), if_pos hj]
  have hft : ∀ g, fit g (scs n f ++ lc 78) (scs n f ++ lc 78) := fun g => fit_same (by rw [rens_append, scs_rens, lc_rens])
  refine vcall_body Tryd.func10 nm10 code10 nt10 ?_
  cases hi with
  | nil =>
    obtain rfl : n = 0 := by omega
    refine run_driveS 80 ?_
    simp only [go_sem, Nat.reduceAdd, Nat.reduceSub, Nat.reduceLeDiff, Nat.reduceMul, Nat.reduceLT, Nat.reduceEqDiff, Int.reduceLT, Int.reduceLE, Int.reduceAdd, Int.reduceSub, Int.reduceMul, Int.reduceToNat, reduceIte, reduceCtorEq, Nat.reduceBEq, v10, v10_0, v10_1]
    refine run_call' rfl ?_
    simp only [go_sem, Nat.reduceAdd, Nat.reduceSub, Nat.reduceLeDiff, Nat.reduceMul, Nat.reduceLT, Nat.reduceEqDiff, Int.reduceLT, Int.reduceLE, Int.reduceAdd, Int.reduceSub, Int.reduceMul, Int.reduceToNat, reduceIte, reduceCtorEq, Nat.reduceBEq, calV]
    refine cut_nil ?_
    refine run_driveS 80 ?_
    simp only [go_sem, Nat.reduceAdd, Nat.reduceSub, Nat.reduceLeDiff, Nat.reduceMul, Nat.reduceLT, Nat.reduceEqDiff, Int.reduceLT, Int.reduceLE, Int.reduceAdd, Int.reduceSub, Int.reduceMul, Int.reduceToNat, reduceIte, reduceCtorEq, Nat.reduceBEq, v10_2, v10_3, v10_9]
    refine run_loop_eq v10_8.eq_1 ?_
    refine run_driveS 80 ?_
    simp only [go_sem, Nat.reduceAdd, Nat.reduceSub, Nat.reduceLeDiff, Nat.reduceMul, Nat.reduceLT, Nat.reduceEqDiff, Int.reduceLT, Int.reduceLE, Int.reduceAdd, Int.reduceSub, Int.reduceMul, Int.reduceToNat, reduceIte, reduceCtorEq, Nat.reduceBEq, v10_4]
    refine run_exit rfl ?_
    refine run_driveS 80 ?_
    simp only [go_sem, Nat.reduceAdd, Nat.reduceSub, Nat.reduceLeDiff, Nat.reduceMul, Nat.reduceLT, Nat.reduceEqDiff, Int.reduceLT, Int.reduceLE, Int.reduceAdd, Int.reduceSub, Int.reduceMul, Int.reduceToNat, reduceIte, reduceCtorEq, Nat.reduceBEq, v10_10, v10_11]
    refine run_ret_drop Tryd.func10 res10 [0, 1] (.sl 1 0 0 (.exact (0 + 1))) _ rfl (by simp) ?_ ?_ ?_ hQ
    · simp only [go_sem, Nat.reduceAdd, Nat.reduceSub, Nat.reduceLeDiff, Nat.reduceMul, Nat.reduceLT, Nat.reduceEqDiff, Int.reduceLT, Int.reduceLE, Int.reduceAdd, Int.reduceSub, Int.reduceMul, Int.reduceToNat, reduceIte, reduceCtorEq, Nat.reduceBEq, hfit, lc_fit, scs_fit, fit, ren, gmap, lw_plain, true_or, or_true, hft]
      exact hft _
    · simp [uniq, wrB]
    · simp only [go_sem, Nat.reduceAdd, Nat.reduceSub, Nat.reduceLeDiff, Nat.reduceMul, Nat.reduceLT, Nat.reduceEqDiff, Int.reduceLT, Int.reduceLE, Int.reduceAdd, Int.reduceSub, Int.reduceMul, Int.reduceToNat, reduceIte, reduceCtorEq, Nat.reduceBEq, rr10, ren, gmap]
  | sl M m hm =>
    refine run_driveS 80 ?_
    simp only [go_sem, Nat.reduceAdd, Nat.reduceSub, Nat.reduceLeDiff, Nat.reduceMul, Nat.reduceLT, Nat.reduceEqDiff, Int.reduceLT, Int.reduceLE, Int.reduceAdd, Int.reduceSub, Int.reduceMul, Int.reduceToNat, reduceIte, reduceCtorEq, Nat.reduceBEq, v10, v10_0, v10_1]
    refine run_call' rfl ?_
    simp only [go_sem, Nat.reduceAdd, Nat.reduceSub, Nat.reduceLeDiff, Nat.reduceMul, Nat.reduceLT, Nat.reduceEqDiff, Int.reduceLT, Int.reduceLE, Int.reduceAdd, Int.reduceSub, Int.reduceMul, Int.reduceToNat, reduceIte, reduceCtorEq, Nat.reduceBEq, calV]
    refine cut_sl' 0 N m hm ?_
    rw [← hn]
    have hw : IntKind.i64.wrap ((n : Int) + 1) = ((n + 1 : Nat) : Int) := by rw [wrap_i64 (by omega) (by omega)]; omega
    have h2 : ((32 : Int) * ((n + 1 : Nat) : Int) ≤ 281474976710656) = True := eq_true (by omega)
    have h3 : (((n + 1 : Nat) : Int) ≤ 9223372036854775807) = True := eq_true (by omega)
    refine run_driveS 80 ?_
    simp only [go_sem, Nat.reduceAdd, Nat.reduceSub, Nat.reduceLeDiff, Nat.reduceMul, Nat.reduceLT, Nat.reduceEqDiff, Int.reduceLT, Int.reduceLE, Int.reduceAdd, Int.reduceSub, Int.reduceMul, Int.reduceToNat, reduceIte, reduceCtorEq, Nat.reduceBEq, v10_2, v10_3, v10_9, hw, h2, h3, ↓scs_zero]
    refine run_rename [0, 1] rfl (by simp) ?_ ?_ ?_ (scalars_loop f N m n (by omega) (by omega) (K := [.c (.seq (.reg v10_10) (.seq (.reg v10_11) .ret))]) ?_ n 0 (by omega))
    · unfold sch
      rw [show (scs (n + 1) fun j => if j < 0 then f j else 0) = scs (n + 1) fun _ => 0 from scs_congr fun j _ => if_neg (by omega)]
      simp only [go_sem, Nat.reduceAdd, Nat.reduceSub, Nat.reduceLeDiff, Nat.reduceMul, Nat.reduceLT, Nat.reduceEqDiff, Int.reduceLT, Int.reduceLE, Int.reduceAdd, Int.reduceSub, Int.reduceMul, Int.reduceToNat, reduceIte, reduceCtorEq, Nat.reduceBEq, hfit, lc_fit, scs_fit, fit, ren, gmap, lw_plain, true_or, or_true]
    · simp [uniq, sch, wrB]
    · unfold scv
      simp only [go_sem, Nat.reduceAdd, Nat.reduceSub, Nat.reduceLeDiff, Nat.reduceMul, Nat.reduceLT, Nat.reduceEqDiff, Int.reduceLT, Int.reduceLE, Int.reduceAdd, Int.reduceSub, Int.reduceMul, Int.reduceToNat, reduceIte, reduceCtorEq, Nat.reduceBEq, hfit, lc_fit, scs_fit, fit, ren, gmap, lw_plain, true_or, or_true]
    · unfold scv sch
      have h1 : ((n : Int) < ((n + 1 : Nat) : Int)) = True := eq_true (by omega)
      have h4 : ((n : Int) ≤ ((n + 1 : Nat) : Int)) = True := eq_true (by omega)
      have hin := scs_in (n + 1) (fun j => if j < n then f j else 0) (i := n) (by omega)
      have hset := scs_set (n + 1) (fun j => if j < n then f j else 0) (fun j => if j < n + 1 then (if j < n then f j else 78) else 0) (i := n) (v := 78) (by omega) (by simp) (fun j _ hj => by by_cases h1 : j < n <;> simp [h1] <;> omega)
      have h78 : [V.int .u64 (nl 78), .int .u64 (nl 0), .int .u64 (nl 0), .int .u64 (nl 0)] = lc 78 := rfl
      refine run_driveS 80 ?_
      simp only [go_sem, Nat.reduceAdd, Nat.reduceSub, Nat.reduceLeDiff, Nat.reduceMul, Nat.reduceLT, Nat.reduceEqDiff, Int.reduceLT, Int.reduceLE, Int.reduceAdd, Int.reduceSub, Int.reduceMul, Int.reduceToNat, reduceIte, reduceCtorEq, Nat.reduceBEq, v10_10, v10_11, h1, h4, h78, hin, hset, hend]
      refine run_ret_drop Tryd.func10 res10 [0, 1] (.sl 1 0 n (.exact (n + 1))) _ rfl (by simp) ?_ ?_ ?_ hQ
      · simp only [go_sem, Nat.reduceAdd, Nat.reduceSub, Nat.reduceLeDiff, Nat.reduceMul, Nat.reduceLT, Nat.reduceEqDiff, Int.reduceLT, Int.reduceLE, Int.reduceAdd, Int.reduceSub, Int.reduceMul, Int.reduceToNat, reduceIte, reduceCtorEq, Nat.reduceBEq, hfit, lc_fit, scs_fit, fit, ren, gmap, lw_plain, true_or, or_true, hft]
      · simp [uniq, wrB]
      · simp only [go_sem, Nat.reduceAdd, Nat.reduceSub, Nat.reduceLeDiff, Nat.reduceMul, Nat.reduceLT, Nat.reduceEqDiff, Int.reduceLT, Int.reduceLE, Int.reduceAdd, Int.reduceSub, Int.reduceMul, Int.reduceToNat, reduceIte, reduceCtorEq, Nat.reduceBEq, rr10, ren, gmap]
end
section
attribute [local go_sem ↓] lc_len lc_take lc_drop lc_known lc_one lc_rens lc_cells lw_known lw_agg lw_asG scs_known scs_one scs_len
attribute [local go_sem] lt_nat lt_natl lt_lnat lt_ll
set_option maxRecDepth 100000
set_option maxHeartbeats 1000000
def dv (b : Nat) (n : Nat) : V := if n = 0 then .nils else .sl b 0 n (.grow 4)
def db (g : Nat → Nat) (n : Nat) : Option Blk := if n = 0 then none else some ⟨.grow, scs n g⟩
theorem dv_pos {b n : Nat} (h : 0 < n) : dv b n = .sl b 0 n (.grow 4) := if_neg (by omega)
theorem db_pos {g : Nat → Nat} {n : Nat} (h : 0 < n) : db g n = some ⟨.grow, scs n g⟩ := if_neg (by omega)
theorem scs_snoc (n : Nat) (g : Nat → Nat) {v : Nat} (h : g n = v) : scs n g ++ lc v = scs (n + 1) g := by subst h; rfl
def dcv (n : Nat) (m : Nat) (i : Nat) : List V := [.sl 0 0 n (.exact m), .unk, .nils, dv 1 i, .int .i64 i] ++ List.replicate 17 .unk
theorem doc_loop (f : Nat → Nat) (hf : ∀ j, f j < 115792089237316195423570985008687907853269984665640564039457584007913129639936) (N m n : Nat) (hN : n ≤ N) (hn : n ≤ 2100) {Q : V → Heap → Prop} {K : List TI}
    (hK : Run Tryd.prog G 11 1 Q (K, ⟨dcv n m n, [some ⟨.ro, scs N f⟩, db (fun j => f j % ell) n]⟩)) : ∀ k i, i + k = n → Run Tryd.prog G 11 1 Q (.l v11_8 :: .b 0 :: K, ⟨dcv n m i, [some ⟨.ro, scs N f⟩, db (fun j => f j % ell) i]⟩)
  | 0, i, h => by
    obtain rfl : i = n := by omega
    have h0 : ((i : Int) < (i : Int)) = False := eq_false (by omega)
    unfold dcv
    by_cases hi : i = 0
    · subst hi
      rw [show dv 1 0 = .nils from rfl, show db (fun j => f j % ell) 0 = none from rfl]
      refine run_loop_eq v11_8.eq_1 ?_
      refine run_driveS 80 ?_
      simp only [go_sem, Nat.reduceAdd, Nat.reduceSub, Nat.reduceLeDiff, Nat.reduceMul, Nat.reduceLT, Nat.reduceEqDiff, Int.reduceLT, Int.reduceLE, Int.reduceAdd, Int.reduceSub, Int.reduceMul, Int.reduceToNat, reduceIte, reduceCtorEq, Nat.reduceBEq, v11_4]
      refine run_exit rfl ?_
      refine run_rename [0, 1] rfl (by simp) ?_ ?_ ?_ hK
      · rw [show db (fun j => f j % ell) 0 = none from rfl]
        simp only [go_sem, Nat.reduceAdd, Nat.reduceSub, Nat.reduceLeDiff, Nat.reduceMul, Nat.reduceLT, Nat.reduceEqDiff, Int.reduceLT, Int.reduceLE, Int.reduceAdd, Int.reduceSub, Int.reduceMul, Int.reduceToNat, reduceIte, reduceCtorEq, Nat.reduceBEq, hfit, lc_fit, scs_fit, fit, ren, gmap, lw_plain, true_or, or_true]
      · simp [uniq, db, wrB]
      · unfold dcv
        rw [show dv 1 0 = .nils from rfl]
        simp only [go_sem, Nat.reduceAdd, Nat.reduceSub, Nat.reduceLeDiff, Nat.reduceMul, Nat.reduceLT, Nat.reduceEqDiff, Int.reduceLT, Int.reduceLE, Int.reduceAdd, Int.reduceSub, Int.reduceMul, Int.reduceToNat, reduceIte, reduceCtorEq, Nat.reduceBEq, hfit, lc_fit, scs_fit, fit, ren, gmap, lw_plain, true_or, or_true]
    · have hi : 0 < i := by omega
      rw [dv_pos hi, db_pos hi]
      refine run_loop_eq v11_8.eq_1 ?_
      refine run_driveS 80 ?_
      simp only [go_sem, Nat.reduceAdd, Nat.reduceSub, Nat.reduceLeDiff, Nat.reduceMul, Nat.reduceLT, Nat.reduceEqDiff, Int.reduceLT, Int.reduceLE, Int.reduceAdd, Int.reduceSub, Int.reduceMul, Int.reduceToNat, reduceIte, reduceCtorEq, Nat.reduceBEq, v11_4, h0]
      refine run_exit rfl ?_
      refine run_rename [0, 1] rfl (by simp) ?_ ?_ ?_ hK
      · rw [db_pos hi]
        simp only [go_sem, Nat.reduceAdd, Nat.reduceSub, Nat.reduceLeDiff, Nat.reduceMul, Nat.reduceLT, Nat.reduceEqDiff, Int.reduceLT, Int.reduceLE, Int.reduceAdd, Int.reduceSub, Int.reduceMul, Int.reduceToNat, reduceIte, reduceCtorEq, Nat.reduceBEq, hfit, lc_fit, scs_fit, fit, ren, gmap, lw_plain, true_or, or_true]
      · simp [uniq, wrB]
      · unfold dcv
        rw [dv_pos hi]
        simp only [go_sem, Nat.reduceAdd, Nat.reduceSub, Nat.reduceLeDiff, Nat.reduceMul, Nat.reduceLT, Nat.reduceEqDiff, Int.reduceLT, Int.reduceLE, Int.reduceAdd, Int.reduceSub, Int.reduceMul, Int.reduceToNat, reduceIte, reduceCtorEq, Nat.reduceBEq, hfit, lc_fit, scs_fit, fit, ren, gmap, lw_plain, true_or, or_true]
  | k + 1, i, h => by
    have ih := doc_loop f hf N m n hN hn hK k (i + 1) (by omega)
    have h0 : ((i : Int) < (n : Int)) = True := eq_true (by omega)
    have hg := scs_get' N f (i := i) (by omega)
    have hw : IntKind.i64.wrap ((i : Int) + 1) = ((i + 1 : Nat) : Int) := by rw [wrap_i64 (by omega) (by omega)]; omega
    unfold dcv
    by_cases hi : i = 0
    · subst hi
      have h0' : ((0 : Int) < (n : Int)) = True := eq_true (by omega)
      rw [Nat.zero_mul, List.drop_zero] at hg
      rw [show dv 1 0 = .nils from rfl, show db (fun j => f j % ell) 0 = none from rfl]
      refine run_loop_eq v11_8.eq_1 ?_
      refine run_driveS 80 ?_
      simp only [go_sem, Nat.reduceAdd, Nat.reduceSub, Nat.reduceLeDiff, Nat.reduceMul, Nat.reduceLT, Nat.reduceEqDiff, Int.reduceLT, Int.reduceLE, Int.reduceAdd, Int.reduceSub, Int.reduceMul, Int.reduceToNat, reduceIte, reduceCtorEq, Nat.reduceBEq, v11_4, v11_6, v11_5, h0', hg]
      refine run_call' rfl ?_
      simp only [go_sem, Nat.reduceAdd, Nat.reduceSub, Nat.reduceLeDiff, Nat.reduceMul, Nat.reduceLT, Nat.reduceEqDiff, Int.reduceLT, Int.reduceLE, Int.reduceAdd, Int.reduceSub, Int.reduceMul, Int.reduceToNat, reduceIte, reduceCtorEq, Nat.reduceBEq, calV]
      refine ref_least _ (hf 0) ?_
      refine run_driveS 80 ?_
      simp only [go_sem, Nat.reduceAdd, Nat.reduceSub, Nat.reduceLeDiff, Nat.reduceMul, Nat.reduceLT, Nat.reduceEqDiff, Int.reduceLT, Int.reduceLE, Int.reduceAdd, Int.reduceSub, Int.reduceMul, Int.reduceToNat, reduceIte, reduceCtorEq, Nat.reduceBEq, v11_7]
      refine run_rename [0, 3] rfl (by simp) ?_ ?_ ?_ ih
      · rw [db_pos (by omega)]
        rw [show scs (0 + 1) (fun j => f j % ell) = lc (f 0 % ell) from rfl]
        simp only [go_sem, Nat.reduceAdd, Nat.reduceSub, Nat.reduceLeDiff, Nat.reduceMul, Nat.reduceLT, Nat.reduceEqDiff, Int.reduceLT, Int.reduceLE, Int.reduceAdd, Int.reduceSub, Int.reduceMul, Int.reduceToNat, reduceIte, reduceCtorEq, Nat.reduceBEq, hfit, lc_fit, scs_fit, fit, ren, gmap, lw_plain, true_or, or_true]
      · simp [uniq, db, wrB]
      · unfold dcv
        rw [dv_pos (by omega)]
        simp only [go_sem, Nat.reduceAdd, Nat.reduceSub, Nat.reduceLeDiff, Nat.reduceMul, Nat.reduceLT, Nat.reduceEqDiff, Int.reduceLT, Int.reduceLE, Int.reduceAdd, Int.reduceSub, Int.reduceMul, Int.reduceToNat, reduceIte, reduceCtorEq, Nat.reduceBEq, hfit, lc_fit, scs_fit, fit, ren, gmap, lw_plain, true_or, or_true]
    · have hi : 0 < i := by omega
      rw [dv_pos hi, db_pos hi]
      have a1 : ((i + 1) * 32 ≤ 140737488355328) = True := eq_true (by omega)
      have a2 : (i + 1 ≤ 9223372036854775807) = True := eq_true (by omega)
      have a3 := scs_snoc i (fun j => f j % ell) (v := f i % ell) rfl
      refine run_loop_eq v11_8.eq_1 ?_
      refine run_driveS 80 ?_
      simp only [go_sem, Nat.reduceAdd, Nat.reduceSub, Nat.reduceLeDiff, Nat.reduceMul, Nat.reduceLT, Nat.reduceEqDiff, Int.reduceLT, Int.reduceLE, Int.reduceAdd, Int.reduceSub, Int.reduceMul, Int.reduceToNat, reduceIte, reduceCtorEq, Nat.reduceBEq, v11_4, v11_6, v11_5, h0, hg]
      refine run_call' rfl ?_
      simp only [go_sem, Nat.reduceAdd, Nat.reduceSub, Nat.reduceLeDiff, Nat.reduceMul, Nat.reduceLT, Nat.reduceEqDiff, Int.reduceLT, Int.reduceLE, Int.reduceAdd, Int.reduceSub, Int.reduceMul, Int.reduceToNat, reduceIte, reduceCtorEq, Nat.reduceBEq, calV]
      refine ref_least _ (hf i) ?_
      refine run_driveS 80 ?_
      simp only [go_sem, Nat.reduceAdd, Nat.reduceSub, Nat.reduceLeDiff, Nat.reduceMul, Nat.reduceLT, Nat.reduceEqDiff, Int.reduceLT, Int.reduceLE, Int.reduceAdd, Int.reduceSub, Int.reduceMul, Int.reduceToNat, reduceIte, reduceCtorEq, Nat.reduceBEq, v11_7, a1, a2, a3, hw]
      refine run_rename [0, 3] rfl (by simp) ?_ ?_ ?_ ih
      · rw [db_pos (by omega)]
        simp only [go_sem, Nat.reduceAdd, Nat.reduceSub, Nat.reduceLeDiff, Nat.reduceMul, Nat.reduceLT, Nat.reduceEqDiff, Int.reduceLT, Int.reduceLE, Int.reduceAdd, Int.reduceSub, Int.reduceMul, Int.reduceToNat, reduceIte, reduceCtorEq, Nat.reduceBEq, hfit, lc_fit, scs_fit, fit, ren, gmap, lw_plain, true_or, or_true]
      · simp [uniq, db, wrB]
      · unfold dcv
        rw [dv_pos (by omega)]
        simp only [go_sem, Nat.reduceAdd, Nat.reduceSub, Nat.reduceLeDiff, Nat.reduceMul, Nat.reduceLT, Nat.reduceEqDiff, Int.reduceLT, Int.reduceLE, Int.reduceAdd, Int.reduceSub, Int.reduceMul, Int.reduceToNat, reduceIte, reduceCtorEq, Nat.reduceBEq, hfit, lc_fit, scs_fit, fit, ren, gmap, lw_plain, true_or, or_true]
theorem doc_scalars (f : Nat → Nat) (hf : ∀ j, f j < 115792089237316195423570985008687907853269984665640564039457584007913129639936) (N n : Nat) (uv : V) (b0 : Option Blk) (hi : In f N uv b0) (hn : n = min N 2100) (Q : V → Heap → Prop) (hQ : Q (dv 1 n) [b0, db (fun j => f j % ell) n]) : VCall Tryd.prog G 11 [uv] [b0] Q := by
  refine vcall_body Tryd.func11 nm11 code11 nt11 ?_
  cases hi with
  | nil =>
    obtain rfl : n = 0 := by omega
    refine run_driveS 80 ?_
    simp only [go_sem, Nat.reduceAdd, Nat.reduceSub, Nat.reduceLeDiff, Nat.reduceMul, Nat.reduceLT, Nat.reduceEqDiff, Int.reduceLT, Int.reduceLE, Int.reduceAdd, Int.reduceSub, Int.reduceMul, Int.reduceToNat, reduceIte, reduceCtorEq, Nat.reduceBEq, v11, v11_0, v11_1]
    refine run_call' rfl ?_
    simp only [go_sem, Nat.reduceAdd, Nat.reduceSub, Nat.reduceLeDiff, Nat.reduceMul, Nat.reduceLT, Nat.reduceEqDiff, Int.reduceLT, Int.reduceLE, Int.reduceAdd, Int.reduceSub, Int.reduceMul, Int.reduceToNat, reduceIte, reduceCtorEq, Nat.reduceBEq, calV]
    refine cut_nil ?_
    refine run_driveS 80 ?_
    simp only [go_sem, Nat.reduceAdd, Nat.reduceSub, Nat.reduceLeDiff, Nat.reduceMul, Nat.reduceLT, Nat.reduceEqDiff, Int.reduceLT, Int.reduceLE, Int.reduceAdd, Int.reduceSub, Int.reduceMul, Int.reduceToNat, reduceIte, reduceCtorEq, Nat.reduceBEq, v11_2, v11_3, v11_9]
    refine run_loop_eq v11_8.eq_1 ?_
    refine run_driveS 80 ?_
    simp only [go_sem, Nat.reduceAdd, Nat.reduceSub, Nat.reduceLeDiff, Nat.reduceMul, Nat.reduceLT, Nat.reduceEqDiff, Int.reduceLT, Int.reduceLE, Int.reduceAdd, Int.reduceSub, Int.reduceMul, Int.reduceToNat, reduceIte, reduceCtorEq, Nat.reduceBEq, v11_4]
    refine run_exit rfl ?_
    refine run_driveS 80 ?_
    simp only [go_sem, Nat.reduceAdd, Nat.reduceSub, Nat.reduceLeDiff, Nat.reduceMul, Nat.reduceLT, Nat.reduceEqDiff, Int.reduceLT, Int.reduceLE, Int.reduceAdd, Int.reduceSub, Int.reduceMul, Int.reduceToNat, reduceIte, reduceCtorEq, Nat.reduceBEq, v11_10]
    refine run_ret_drop Tryd.func11 res11 [0, 1] .nils _ rfl (by simp) ?_ ?_ ?_ hQ
    · rw [show db (fun j => f j % ell) 0 = none from rfl]
      simp only [go_sem, Nat.reduceAdd, Nat.reduceSub, Nat.reduceLeDiff, Nat.reduceMul, Nat.reduceLT, Nat.reduceEqDiff, Int.reduceLT, Int.reduceLE, Int.reduceAdd, Int.reduceSub, Int.reduceMul, Int.reduceToNat, reduceIte, reduceCtorEq, Nat.reduceBEq, hfit, lc_fit, scs_fit, fit, ren, gmap, lw_plain, true_or, or_true]
    · simp [uniq, db, wrB]
    · simp only [go_sem, Nat.reduceAdd, Nat.reduceSub, Nat.reduceLeDiff, Nat.reduceMul, Nat.reduceLT, Nat.reduceEqDiff, Int.reduceLT, Int.reduceLE, Int.reduceAdd, Int.reduceSub, Int.reduceMul, Int.reduceToNat, reduceIte, reduceCtorEq, Nat.reduceBEq, rr11, ren, gmap]
  | sl M m hm =>
    refine run_driveS 80 ?_
    simp only [go_sem, Nat.reduceAdd, Nat.reduceSub, Nat.reduceLeDiff, Nat.reduceMul, Nat.reduceLT, Nat.reduceEqDiff, Int.reduceLT, Int.reduceLE, Int.reduceAdd, Int.reduceSub, Int.reduceMul, Int.reduceToNat, reduceIte, reduceCtorEq, Nat.reduceBEq, v11, v11_0, v11_1]
    refine run_call' rfl ?_
    simp only [go_sem, Nat.reduceAdd, Nat.reduceSub, Nat.reduceLeDiff, Nat.reduceMul, Nat.reduceLT, Nat.reduceEqDiff, Int.reduceLT, Int.reduceLE, Int.reduceAdd, Int.reduceSub, Int.reduceMul, Int.reduceToNat, reduceIte, reduceCtorEq, Nat.reduceBEq, calV]
    refine cut_sl' 0 N m hm ?_
    rw [← hn]
    refine run_driveS 80 ?_
    simp only [go_sem, Nat.reduceAdd, Nat.reduceSub, Nat.reduceLeDiff, Nat.reduceMul, Nat.reduceLT, Nat.reduceEqDiff, Int.reduceLT, Int.reduceLE, Int.reduceAdd, Int.reduceSub, Int.reduceMul, Int.reduceToNat, reduceIte, reduceCtorEq, Nat.reduceBEq, v11_2, v11_3, v11_9]
    refine run_rename [0, 1] rfl (by simp) ?_ ?_ ?_ (doc_loop f hf N m n (by omega) (by omega) (K := [.c (.seq (.reg v11_10) .ret)]) ?_ n 0 (by omega))
    · rw [show db (fun j => f j % ell) 0 = none from rfl]
      simp only [go_sem, Nat.reduceAdd, Nat.reduceSub, Nat.reduceLeDiff, Nat.reduceMul, Nat.reduceLT, Nat.reduceEqDiff, Int.reduceLT, Int.reduceLE, Int.reduceAdd, Int.reduceSub, Int.reduceMul, Int.reduceToNat, reduceIte, reduceCtorEq, Nat.reduceBEq, hfit, lc_fit, scs_fit, fit, ren, gmap, lw_plain, true_or, or_true]
    · simp [uniq, db, wrB]
    · unfold dcv
      rw [show dv 1 0 = .nils from rfl]
      simp only [go_sem, Nat.reduceAdd, Nat.reduceSub, Nat.reduceLeDiff, Nat.reduceMul, Nat.reduceLT, Nat.reduceEqDiff, Int.reduceLT, Int.reduceLE, Int.reduceAdd, Int.reduceSub, Int.reduceMul, Int.reduceToNat, reduceIte, reduceCtorEq, Nat.reduceBEq, hfit, lc_fit, scs_fit, fit, ren, gmap, lw_plain, true_or, or_true]
    · unfold dcv
      by_cases h0 : n = 0
      · rw [h0] at hQ ⊢
        rw [show db (fun j => f j % ell) 0 = none from rfl, show dv 1 0 = .nils from rfl] at hQ ⊢
        refine run_driveS 80 ?_
        simp only [go_sem, Nat.reduceAdd, Nat.reduceSub, Nat.reduceLeDiff, Nat.reduceMul, Nat.reduceLT, Nat.reduceEqDiff, Int.reduceLT, Int.reduceLE, Int.reduceAdd, Int.reduceSub, Int.reduceMul, Int.reduceToNat, reduceIte, reduceCtorEq, Nat.reduceBEq, v11_10]
        refine run_ret_drop Tryd.func11 res11 [0, 1] .nils _ rfl (by simp) ?_ ?_ ?_ hQ
        · simp only [go_sem, Nat.reduceAdd, Nat.reduceSub, Nat.reduceLeDiff, Nat.reduceMul, Nat.reduceLT, Nat.reduceEqDiff, Int.reduceLT, Int.reduceLE, Int.reduceAdd, Int.reduceSub, Int.reduceMul, Int.reduceToNat, reduceIte, reduceCtorEq, Nat.reduceBEq, hfit, lc_fit, scs_fit, fit, ren, gmap, lw_plain, true_or, or_true]
        · simp [uniq, wrB]
        · simp only [go_sem, Nat.reduceAdd, Nat.reduceSub, Nat.reduceLeDiff, Nat.reduceMul, Nat.reduceLT, Nat.reduceEqDiff, Int.reduceLT, Int.reduceLE, Int.reduceAdd, Int.reduceSub, Int.reduceMul, Int.reduceToNat, reduceIte, reduceCtorEq, Nat.reduceBEq, rr11, ren, gmap]
      · rw [db_pos (by omega), dv_pos (by omega)] at hQ ⊢
        refine run_driveS 80 ?_
        simp only [go_sem, Nat.reduceAdd, Nat.reduceSub, Nat.reduceLeDiff, Nat.reduceMul, Nat.reduceLT, Nat.reduceEqDiff, Int.reduceLT, Int.reduceLE, Int.reduceAdd, Int.reduceSub, Int.reduceMul, Int.reduceToNat, reduceIte, reduceCtorEq, Nat.reduceBEq, v11_10]
        refine run_ret_drop Tryd.func11 res11 [0, 1] (.sl 1 0 n (.grow 4)) _ rfl (by simp) ?_ ?_ ?_ hQ
        · simp only [go_sem, Nat.reduceAdd, Nat.reduceSub, Nat.reduceLeDiff, Nat.reduceMul, Nat.reduceLT, Nat.reduceEqDiff, Int.reduceLT, Int.reduceLE, Int.reduceAdd, Int.reduceSub, Int.reduceMul, Int.reduceToNat, reduceIte, reduceCtorEq, Nat.reduceBEq, hfit, lc_fit, scs_fit, fit, ren, gmap, lw_plain, true_or, or_true]
        · simp [uniq, wrB]
        · simp only [go_sem, Nat.reduceAdd, Nat.reduceSub, Nat.reduceLeDiff, Nat.reduceMul, Nat.reduceLT, Nat.reduceEqDiff, Int.reduceLT, Int.reduceLE, Int.reduceAdd, Int.reduceSub, Int.reduceMul, Int.reduceToNat, reduceIte, reduceCtorEq, Nat.reduceBEq, rr11, ren, gmap]
end
section
attribute [local go_sem ↓] lc_len lc_take lc_drop lc_known lc_one lc_rens lc_cells lw_known lw_agg lw_asG scs_known scs_one scs_len
attribute [local go_sem] lt_nat lt_natl lt_lnat lt_ll bool_tf bool_ft
attribute [local go_sem ↓] ecs_len ecs_take ecs_drop ecs_known ecs_one ecs_rens ecs_fit ecs_cells ew_known ew_agg ew_asG ecs_kind ecs_k ecs_l
set_option maxRecDepth 100000
set_option maxHeartbeats 1000000
theorem ecs_take_add (a k : Nat) (l : List V) : (ecs a ++ l).take (k + 26) = ecs a ++ l.take k := rfl
theorem ecs_drop_add (a k : Nat) (l : List V) : (ecs a ++ l).drop (k + 26) = l.drop k := rfl
/- Elements, one behind the other; a slice of them that was grown by append; its block, read only. -/
theorem ecs26 (f : Nat → Nat) (j : Nat) : (ecs (f j)).length = 26 := rfl
def ers (n : Nat) (f : Nat → Nat) : List V := row n fun j => ecs (f j)
theorem ers_len (n : Nat) (f : Nat → Nat) : (ers n f).length = n * 26 := row_len (ecs26 f) n
theorem ers_get (n : Nat) (f : Nat → Nat) {i : Nat} (h : i < n) : ((ers n f).drop (i * 26)).take 26 = ecs (f i) := row_get' (ecs26 f) h
theorem ers_known (n : Nat) (f : Nat → Nat) : (ers n f).all V.known = true := row_all (fun _ => rfl) n
theorem ers_one (n : Nat) (f : Nat → Nat) : (ers n f).all V.one = true := row_all (fun _ => rfl) n
theorem ers_rens (n : Nat) (f g : Nat → Nat) : rens g (ers n f) = ers n f := row_rens (fun j => ecs_rens _ g) n
theorem ers_fit (n : Nat) (f g : Nat → Nat) : fit g (ers n f) (ers n f) := fit_same (ers_rens n f g)
theorem ers_snoc (n : Nat) (g : Nat → Nat) {v : Nat} (h : g n = v) : ers n g ++ ecs v = ers (n + 1) g := by subst h; rfl
def de (b n : Nat) : V := if n = 0 then .nils else .sl b 0 n (.grow 26)
def eb (f : Nat → Nat) (n : Nat) : Option Blk := if n = 0 then none else some ⟨.ro, ers n f⟩
def ebg (f : Nat → Nat) (n : Nat) : Option Blk := if n = 0 then none else some ⟨.grow, ers n f⟩
theorem de_pos {b n : Nat} (h : 0 < n) : de b n = .sl b 0 n (.grow 26) := if_neg (by omega)
theorem eb_pos {f : Nat → Nat} {n : Nat} (h : 0 < n) : eb f n = some ⟨.ro, ers n f⟩ := if_neg (by omega)
theorem ebg_pos {f : Nat → Nat} {n : Nat} (h : 0 < n) : ebg f n = some ⟨.grow, ers n f⟩ := if_neg (by omega)
theorem lenO_de (b n : Nat) : lenO (de b n) = some n := by
  unfold de
  by_cases h : n = 0
  · rw [if_pos h, h]; rfl
  · rw [if_neg h]; rfl
theorem lenO_dv (b n : Nat) : lenO (dv b n) = some n := by
  unfold dv
  by_cases h : n = 0
  · rw [if_pos h, h]; rfl
  · rw [if_neg h]; rfl
theorem de_known (b n : Nat) : (de b n).known = true := by unfold de; split <;> rfl
theorem dv_known (b n : Nat) : (dv b n).known = true := by unfold dv; split <;> rfl
theorem de_one (b n : Nat) : (de b n).one = true := by unfold de; split <;> rfl
theorem dv_one (b n : Nat) : (dv b n).one = true := by unfold dv; split <;> rfl
theorem de_ren (b n : Nat) (g : Nat → Nat) : ren g (de b n) = de (g b) n := by unfold de; split <;> rfl
theorem dv_ren (b n : Nat) (g : Nat → Nat) : ren g (dv b n) = dv (g b) n := by unfold dv; split <;> rfl
def rob (g : Nat → Nat) (n : Nat) : Option Blk := if n = 0 then none else some ⟨.ro, scs n g⟩
theorem rob_pos {g : Nat → Nat} {n : Nat} (h : 0 < n) : rob g n = some ⟨.ro, scs n g⟩ := if_neg (by omega)
theorem rob_zero (g : Nat → Nat) : rob g 0 = none := rfl
theorem eb_cases (f : Nat → Nat) (n : Nat) : eb f n = none ∨ eb f n = some ⟨.ro, ers n f⟩ := by unfold eb; split <;> simp
theorem rob_cases (f : Nat → Nat) (n : Nat) : rob f n = none ∨ rob f n = some ⟨.ro, scs n f⟩ := by unfold rob; split <;> simp
attribute [local go_sem ↓] ecs_take_add ecs_drop_add lc_take_add lc_drop_add lenO_de lenO_dv de_known dv_known de_one dv_one de_ren dv_ren
def stE (P Q : Nat) (g h : V) : V := .agg (ecs P ++ (ecs Q ++ [g, h]))
def arE (l r : V) (a b : Nat) : V := .agg (l :: r :: (lc a ++ lc b))
theorem stE_ren (P Q : Nat) (x y : V) (g : Nat → Nat) : ren g (stE P Q x y) = stE P Q (ren g x) (ren g y) := by simp only [stE, ren, rens_append, ecs_rens, rens]
theorem arE_ren (x y : V) (a b : Nat) (g : Nat → Nat) : ren g (arE x y a b) = arE (ren g x) (ren g y) a b := by simp only [arE, ren, rens_append, lc_rens, rens]
def fiv (nU : Nat) (k : Nat) (j : Nat) : List V := [.unk, .unk, dv 0 nU, .unk, .unk, .unk, .int .i64 0, .int .i64 k, .int .i64 j] ++ List.replicate 45 .unk
theorem fits_loop (us : Nat → Nat) (hus : ∀ j, us j < 115792089237316195423570985008687907853269984665640564039457584007913129639936) (k : Nat) (hk : k ≤ 10) {Q : V → Heap → Prop} (hQ0 : (∀ j, j < k → us j ≠ 0) → Q (.int .i64 0) [rob us k, none, none, none, none]) (hQ4 : (∃ j, j < k ∧ us j = 0) → Q (.int .i64 4) [rob us k, none, none, none, none]) : ∀ m j, j + m = k → (∀ i, i < j → us i ≠ 0) →
    Run Tryd.prog G 12 5 Q ([.l v12_10, .b 0, .c (.seq (.reg v12_12) .ret)], ⟨fiv k k j, [rob us k, none, none, none, none]⟩)
  | 0, j, h, hz => by
    obtain rfl : j = k := by omega
    have h0 : ((j : Int) < (j : Int)) = False := eq_false (by omega)
    unfold fiv
    refine run_loop_eq v12_10.eq_1 ?_
    refine run_driveS 80 ?_
    simp only [go_sem, Nat.reduceAdd, Nat.reduceSub, Nat.reduceLeDiff, Nat.reduceMul, Nat.reduceLT, Nat.reduceEqDiff, Int.reduceLT, Int.reduceLE, Int.reduceAdd, Int.reduceSub, Int.reduceMul, Int.reduceToNat, reduceIte, reduceCtorEq, Nat.reduceBEq, v12_5, h0]
    refine run_exit rfl ?_
    refine run_driveS 80 ?_
    simp only [go_sem, Nat.reduceAdd, Nat.reduceSub, Nat.reduceLeDiff, Nat.reduceMul, Nat.reduceLT, Nat.reduceEqDiff, Int.reduceLT, Int.reduceLE, Int.reduceAdd, Int.reduceSub, Int.reduceMul, Int.reduceToNat, reduceIte, reduceCtorEq, Nat.reduceBEq, v12_12]
    refine run_ret_drop Tryd.func12 res12 [0, 1, 2, 3, 4] (.int .i64 0) _ rfl (by simp) ?_ ?_ ?_ (hQ0 hz)
    · rcases rob_cases us j with e | e <;> rw [e]
      · simp only [go_sem, Nat.reduceAdd, Nat.reduceSub, Nat.reduceLeDiff, Nat.reduceMul, Nat.reduceLT, Nat.reduceEqDiff, Int.reduceLT, Int.reduceLE, Int.reduceAdd, Int.reduceSub, Int.reduceMul, Int.reduceToNat, reduceIte, reduceCtorEq, Nat.reduceBEq, hfit, lc_fit, scs_fit, fit, ren, gmap, lw_plain, true_or, or_true]
      · simp only [go_sem, Nat.reduceAdd, Nat.reduceSub, Nat.reduceLeDiff, Nat.reduceMul, Nat.reduceLT, Nat.reduceEqDiff, Int.reduceLT, Int.reduceLE, Int.reduceAdd, Int.reduceSub, Int.reduceMul, Int.reduceToNat, reduceIte, reduceCtorEq, Nat.reduceBEq, hfit, lc_fit, scs_fit, fit, ren, gmap, lw_plain, true_or, or_true]
    · rcases rob_cases us j with e | e <;> rw [e] <;> simp [uniq, wrB]
    · simp only [go_sem, Nat.reduceAdd, Nat.reduceSub, Nat.reduceLeDiff, Nat.reduceMul, Nat.reduceLT, Nat.reduceEqDiff, Int.reduceLT, Int.reduceLE, Int.reduceAdd, Int.reduceSub, Int.reduceMul, Int.reduceToNat, reduceIte, reduceCtorEq, Nat.reduceBEq, rr12, ren]
  | m + 1, j, h, hz => by
    have hj := hus j
    have ih := fits_loop us hus k hk hQ0 hQ4 m (j + 1) (by omega)
    have h0 : ((j : Int) < (k : Int)) = True := eq_true (by omega)
    have hg := scs_get' k us (i := j) (by omega)
    have hw : IntKind.i64.wrap ((j : Int) + 1) = ((j + 1 : Nat) : Int) := by rw [wrap_i64 (by omega) (by omega)]; omega
    unfold fiv at ih ⊢
    rw [rob_pos (by omega), dv_pos (by omega)] at *
    refine run_loop_eq v12_10.eq_1 ?_
    refine run_driveS 80 ?_
    simp only [go_sem, Nat.reduceAdd, Nat.reduceSub, Nat.reduceLeDiff, Nat.reduceMul, Nat.reduceLT, Nat.reduceEqDiff, Int.reduceLT, Int.reduceLE, Int.reduceAdd, Int.reduceSub, Int.reduceMul, Int.reduceToNat, reduceIte, reduceCtorEq, Nat.reduceBEq, v12_5, v12_8, v12_6, h0, hg]
    refine run_call' rfl ?_
    simp only [go_sem, Nat.reduceAdd, Nat.reduceSub, Nat.reduceLeDiff, Nat.reduceMul, Nat.reduceLT, Nat.reduceEqDiff, Int.reduceLT, Int.reduceLE, Int.reduceAdd, Int.reduceSub, Int.reduceMul, Int.reduceToNat, reduceIte, reduceCtorEq, Nat.reduceBEq, calV]
    refine ref_zero (us j) hj ?_
    refine run_driveS 80 ?_
    simp only [go_sem, Nat.reduceAdd, Nat.reduceSub, Nat.reduceLeDiff, Nat.reduceMul, Nat.reduceLT, Nat.reduceEqDiff, Int.reduceLT, Int.reduceLE, Int.reduceAdd, Int.reduceSub, Int.reduceMul, Int.reduceToNat, reduceIte, reduceCtorEq, Nat.reduceBEq]
    by_cases hz' : us j = 0
    · refine run_cond_t (by simp only [go_sem, Nat.reduceAdd, Nat.reduceSub, Nat.reduceLeDiff, Nat.reduceMul, Nat.reduceLT, Nat.reduceEqDiff, Int.reduceLT, Int.reduceLE, Int.reduceAdd, Int.reduceSub, Int.reduceMul, Int.reduceToNat, reduceIte, reduceCtorEq, Nat.reduceBEq, decide_eq_true hz']) ?_
      refine run_driveS 80 ?_
      simp only [go_sem, Nat.reduceAdd, Nat.reduceSub, Nat.reduceLeDiff, Nat.reduceMul, Nat.reduceLT, Nat.reduceEqDiff, Int.reduceLT, Int.reduceLE, Int.reduceAdd, Int.reduceSub, Int.reduceMul, Int.reduceToNat, reduceIte, reduceCtorEq, Nat.reduceBEq, v12_7]
      refine run_ret_drop Tryd.func12 res12 [0, 1, 2, 3, 4] (.int .i64 4) _ rfl (by simp) ?_ ?_ ?_ (hQ4 ⟨j, by omega, hz'⟩)
      · simp only [go_sem, Nat.reduceAdd, Nat.reduceSub, Nat.reduceLeDiff, Nat.reduceMul, Nat.reduceLT, Nat.reduceEqDiff, Int.reduceLT, Int.reduceLE, Int.reduceAdd, Int.reduceSub, Int.reduceMul, Int.reduceToNat, reduceIte, reduceCtorEq, Nat.reduceBEq, hfit, lc_fit, scs_fit, fit, ren, gmap, lw_plain, true_or, or_true]
      · simp [uniq, wrB]
      · simp only [go_sem, Nat.reduceAdd, Nat.reduceSub, Nat.reduceLeDiff, Nat.reduceMul, Nat.reduceLT, Nat.reduceEqDiff, Int.reduceLT, Int.reduceLE, Int.reduceAdd, Int.reduceSub, Int.reduceMul, Int.reduceToNat, reduceIte, reduceCtorEq, Nat.reduceBEq, rr12, ren]
    · refine run_cond_f (by simp only [go_sem, Nat.reduceAdd, Nat.reduceSub, Nat.reduceLeDiff, Nat.reduceMul, Nat.reduceLT, Nat.reduceEqDiff, Int.reduceLT, Int.reduceLE, Int.reduceAdd, Int.reduceSub, Int.reduceMul, Int.reduceToNat, reduceIte, reduceCtorEq, Nat.reduceBEq, decide_eq_false hz']) ?_
      refine run_driveS 80 ?_
      simp only [go_sem, Nat.reduceAdd, Nat.reduceSub, Nat.reduceLeDiff, Nat.reduceMul, Nat.reduceLT, Nat.reduceEqDiff, Int.reduceLT, Int.reduceLE, Int.reduceAdd, Int.reduceSub, Int.reduceMul, Int.reduceToNat, reduceIte, reduceCtorEq, Nat.reduceBEq, v12_9, hw]
      refine run_rename [0, 1, 2, 3, 4] rfl (by simp) ?_ ?_ ?_ (ih (fun i hi => by
        by_cases e : i = j
        · subst e; exact hz'
        · exact hz i (by omega)))
      · simp only [go_sem, Nat.reduceAdd, Nat.reduceSub, Nat.reduceLeDiff, Nat.reduceMul, Nat.reduceLT, Nat.reduceEqDiff, Int.reduceLT, Int.reduceLE, Int.reduceAdd, Int.reduceSub, Int.reduceMul, Int.reduceToNat, reduceIte, reduceCtorEq, Nat.reduceBEq, hfit, lc_fit, scs_fit, fit, ren, gmap, lw_plain, true_or, or_true]
      · simp [uniq, wrB]
      · simp only [go_sem, Nat.reduceAdd, Nat.reduceSub, Nat.reduceLeDiff, Nat.reduceMul, Nat.reduceLT, Nat.reduceEqDiff, Int.reduceLT, Int.reduceLE, Int.reduceAdd, Int.reduceSub, Int.reduceMul, Int.reduceToNat, reduceIte, reduceCtorEq, Nat.reduceBEq, hfit, lc_fit, scs_fit, fit, ren, gmap, lw_plain, true_or, or_true]
theorem fits_ref (P Q' a b nG nH nL nR nU : Nat) (us : Nat → Nat) (hus : ∀ j, us j < 115792089237316195423570985008687907853269984665640564039457584007913129639936) (Q : V → Heap → Prop)
    (hQ2 : (∀ k, ¬ Fit nG nH nL nR nU k) → Q (.int .i64 2) [rob us nU, none, none, none, none])
    (hQ4 : ∀ k, Fit nG nH nL nR nU k → (∃ j, j < k ∧ us j = 0) → Q (.int .i64 4) [rob us nU, none, none, none, none])
    (hQ0 : ∀ k, Fit nG nH nL nR nU k → (∀ j, j < k → us j ≠ 0) → Q (.int .i64 0) [rob us nU, none, none, none, none]) :
    VCall Tryd.prog G 12 [stE P Q' (de 1 nG) (de 2 nH), arE (de 3 nL) (de 4 nR) a b, dv 0 nU] [rob us nU, none, none, none, none] Q := by
  have fin2 : ∀ (st : St) (hp : List (Option Blk)), (∀ k, ¬ Fit nG nH nL nR nU k) → st.heap = rob us nU :: none :: none :: none :: none :: hp → st.tmps[6]? = some (.int .i64 2) → Run Tryd.prog G 12 5 Q ([.c .ret, .c (.seq (.seq (.reg v12_4) (.block 0 v12_11)) (.seq (.reg v12_12) .ret))], st) := by
    intro st hp hf he ht
    refine run_ret_drop Tryd.func12 res12 [0, 1, 2, 3, 4] (.int .i64 2) _ rfl (by simp) ?_ ?_ ?_ (hQ2 hf)
    · rw [he]
      rcases rob_cases us nU with e | e <;> rw [e]
      · simp only [go_sem, Nat.reduceAdd, Nat.reduceSub, Nat.reduceLeDiff, Nat.reduceMul, Nat.reduceLT, Nat.reduceEqDiff, Int.reduceLT, Int.reduceLE, Int.reduceAdd, Int.reduceSub, Int.reduceMul, Int.reduceToNat, reduceIte, reduceCtorEq, Nat.reduceBEq, hfit, lc_fit, scs_fit, fit, ren, gmap, lw_plain, true_or, or_true]
      · simp only [go_sem, Nat.reduceAdd, Nat.reduceSub, Nat.reduceLeDiff, Nat.reduceMul, Nat.reduceLT, Nat.reduceEqDiff, Int.reduceLT, Int.reduceLE, Int.reduceAdd, Int.reduceSub, Int.reduceMul, Int.reduceToNat, reduceIte, reduceCtorEq, Nat.reduceBEq, hfit, lc_fit, scs_fit, fit, ren, gmap, lw_plain, true_or, or_true]
    · rcases rob_cases us nU with e | e <;> rw [e] <;> simp [uniq, wrB]
    · have ht' : st.tmps.getD 6 .unk = .int .i64 2 := by rw [List.getD_eq_getElem?_getD, ht]; rfl
      simp only [go_sem, Nat.reduceAdd, Nat.reduceSub, Nat.reduceLeDiff, Nat.reduceMul, Nat.reduceLT, Nat.reduceEqDiff, Int.reduceLT, Int.reduceLE, Int.reduceAdd, Int.reduceSub, Int.reduceMul, Int.reduceToNat, reduceIte, reduceCtorEq, Nat.reduceBEq, rr12, ren, ht']
  refine vcall_body Tryd.func12 nm12 code12 nt12 ?_
  unfold stE arE
  refine run_driveS 80 ?_
  simp only [go_sem, Nat.reduceAdd, Nat.reduceSub, Nat.reduceLeDiff, Nat.reduceMul, Nat.reduceLT, Nat.reduceEqDiff, Int.reduceLT, Int.reduceLE, Int.reduceAdd, Int.reduceSub, Int.reduceMul, Int.reduceToNat, reduceIte, reduceCtorEq, Nat.reduceBEq, v12, v12_0, v12_1]
  refine run_call' rfl ?_
  simp only [go_sem, Nat.reduceAdd, Nat.reduceSub, Nat.reduceLeDiff, Nat.reduceMul, Nat.reduceLT, Nat.reduceEqDiff, Int.reduceLT, Int.reduceLE, Int.reduceAdd, Int.reduceSub, Int.reduceMul, Int.reduceToNat, reduceIte, reduceCtorEq, Nat.reduceBEq, calV]
  refine log_ nG (fun k hk e => ?_) (fun hz => ?_)
  · have uk : ∀ k', nG = 2 ^ k' → k' = k := fun k' e' => pow_inj (e'.symm.trans e)
    have hn : ((k : Int) < 0) = False := eq_false (by omega)
    by_cases h1 : nG = nH
    case neg =>
      have d0 : decide (nG = nH) = false := decide_eq_false h1
      refine run_driveS 80 ?_
      simp only [go_sem, Nat.reduceAdd, Nat.reduceSub, Nat.reduceLeDiff, Nat.reduceMul, Nat.reduceLT, Nat.reduceEqDiff, Int.reduceLT, Int.reduceLE, Int.reduceAdd, Int.reduceSub, Int.reduceMul, Int.reduceToNat, reduceIte, reduceCtorEq, Nat.reduceBEq, v12_2, eq_int, hn, d0]
      refine run_cond_t (by rfl) ?_
      refine run_driveS 80 ?_
      simp only [go_sem, Nat.reduceAdd, Nat.reduceSub, Nat.reduceLeDiff, Nat.reduceMul, Nat.reduceLT, Nat.reduceEqDiff, Int.reduceLT, Int.reduceLE, Int.reduceAdd, Int.reduceSub, Int.reduceMul, Int.reduceToNat, reduceIte, reduceCtorEq, Nat.reduceBEq, v12_3]
      exact fin2 _ _ (fun k' f => h1 (by obtain ⟨f1, f2, f3, f4, f5, f6⟩ := f; have := uk k' f1; omega)) rfl rfl
    have d0 : decide (nG = nH) = true := decide_eq_true h1
    by_cases h2 : nL = k
    case neg =>
      have d1 : decide (nL = k) = false := decide_eq_false h2
      refine run_driveS 80 ?_
      simp only [go_sem, Nat.reduceAdd, Nat.reduceSub, Nat.reduceLeDiff, Nat.reduceMul, Nat.reduceLT, Nat.reduceEqDiff, Int.reduceLT, Int.reduceLE, Int.reduceAdd, Int.reduceSub, Int.reduceMul, Int.reduceToNat, reduceIte, reduceCtorEq, Nat.reduceBEq, v12_2, eq_int, hn, d0, d1]
      refine run_cond_t (by rfl) ?_
      refine run_driveS 80 ?_
      simp only [go_sem, Nat.reduceAdd, Nat.reduceSub, Nat.reduceLeDiff, Nat.reduceMul, Nat.reduceLT, Nat.reduceEqDiff, Int.reduceLT, Int.reduceLE, Int.reduceAdd, Int.reduceSub, Int.reduceMul, Int.reduceToNat, reduceIte, reduceCtorEq, Nat.reduceBEq, v12_3]
      exact fin2 _ _ (fun k' f => h2 (by obtain ⟨f1, f2, f3, f4, f5, f6⟩ := f; have := uk k' f1; omega)) rfl rfl
    have d1 : decide (nL = k) = true := decide_eq_true h2
    by_cases h3 : nR = k
    case neg =>
      have d2 : decide (nR = k) = false := decide_eq_false h3
      refine run_driveS 80 ?_
      simp only [go_sem, Nat.reduceAdd, Nat.reduceSub, Nat.reduceLeDiff, Nat.reduceMul, Nat.reduceLT, Nat.reduceEqDiff, Int.reduceLT, Int.reduceLE, Int.reduceAdd, Int.reduceSub, Int.reduceMul, Int.reduceToNat, reduceIte, reduceCtorEq, Nat.reduceBEq, v12_2, eq_int, hn, d0, d1, d2]
      refine run_cond_t (by rfl) ?_
      refine run_driveS 80 ?_
      simp only [go_sem, Nat.reduceAdd, Nat.reduceSub, Nat.reduceLeDiff, Nat.reduceMul, Nat.reduceLT, Nat.reduceEqDiff, Int.reduceLT, Int.reduceLE, Int.reduceAdd, Int.reduceSub, Int.reduceMul, Int.reduceToNat, reduceIte, reduceCtorEq, Nat.reduceBEq, v12_3]
      exact fin2 _ _ (fun k' f => h3 (by obtain ⟨f1, f2, f3, f4, f5, f6⟩ := f; have := uk k' f1; omega)) rfl rfl
    have d2 : decide (nR = k) = true := decide_eq_true h3
    by_cases h4 : nU = k
    case neg =>
      have d3 : decide (nU = k) = false := decide_eq_false h4
      refine run_driveS 80 ?_
      simp only [go_sem, Nat.reduceAdd, Nat.reduceSub, Nat.reduceLeDiff, Nat.reduceMul, Nat.reduceLT, Nat.reduceEqDiff, Int.reduceLT, Int.reduceLE, Int.reduceAdd, Int.reduceSub, Int.reduceMul, Int.reduceToNat, reduceIte, reduceCtorEq, Nat.reduceBEq, v12_2, eq_int, hn, d0, d1, d2, d3]
      refine run_cond_t (by rfl) ?_
      refine run_driveS 80 ?_
      simp only [go_sem, Nat.reduceAdd, Nat.reduceSub, Nat.reduceLeDiff, Nat.reduceMul, Nat.reduceLT, Nat.reduceEqDiff, Int.reduceLT, Int.reduceLE, Int.reduceAdd, Int.reduceSub, Int.reduceMul, Int.reduceToNat, reduceIte, reduceCtorEq, Nat.reduceBEq, v12_3]
      exact fin2 _ _ (fun k' f => h4 (by obtain ⟨f1, f2, f3, f4, f5, f6⟩ := f; have := uk k' f1; omega)) rfl rfl
    have d3 : decide (nU = k) = true := decide_eq_true h4
    refine run_driveS 80 ?_
    simp only [go_sem, Nat.reduceAdd, Nat.reduceSub, Nat.reduceLeDiff, Nat.reduceMul, Nat.reduceLT, Nat.reduceEqDiff, Int.reduceLT, Int.reduceLE, Int.reduceAdd, Int.reduceSub, Int.reduceMul, Int.reduceToNat, reduceIte, reduceCtorEq, Nat.reduceBEq, v12_2, eq_int, hn, d0, d1, d2, d3]
    refine run_cond_f (by rfl) ?_
    refine run_driveS 80 ?_
    simp only [go_sem, Nat.reduceAdd, Nat.reduceSub, Nat.reduceLeDiff, Nat.reduceMul, Nat.reduceLT, Nat.reduceEqDiff, Int.reduceLT, Int.reduceLE, Int.reduceAdd, Int.reduceSub, Int.reduceMul, Int.reduceToNat, reduceIte, reduceCtorEq, Nat.reduceBEq, v12_4, v12_11]
    have hf : Fit nG nH nL nR nU k := ⟨e, hk, h1.symm, h2, h3, h4⟩
    have q0 := hQ0 k hf
    have q4 := hQ4 k hf
    rw [h4] at q0 q4 ⊢
    refine run_rename [0, 1, 2, 3, 4] rfl (by simp) ?_ ?_ ?_ (fits_loop us hus k hk q0 q4 k 0 (by omega) (fun j hj => by omega))
    · rcases rob_cases us k with e | e <;> rw [e]
      · simp only [go_sem, Nat.reduceAdd, Nat.reduceSub, Nat.reduceLeDiff, Nat.reduceMul, Nat.reduceLT, Nat.reduceEqDiff, Int.reduceLT, Int.reduceLE, Int.reduceAdd, Int.reduceSub, Int.reduceMul, Int.reduceToNat, reduceIte, reduceCtorEq, Nat.reduceBEq, hfit, lc_fit, scs_fit, fit, ren, gmap, lw_plain, true_or, or_true]
      · simp only [go_sem, Nat.reduceAdd, Nat.reduceSub, Nat.reduceLeDiff, Nat.reduceMul, Nat.reduceLT, Nat.reduceEqDiff, Int.reduceLT, Int.reduceLE, Int.reduceAdd, Int.reduceSub, Int.reduceMul, Int.reduceToNat, reduceIte, reduceCtorEq, Nat.reduceBEq, hfit, lc_fit, scs_fit, fit, ren, gmap, lw_plain, true_or, or_true]
    · rcases rob_cases us k with e | e <;> rw [e] <;> simp [uniq, wrB]
    · unfold fiv
      simp only [go_sem, Nat.reduceAdd, Nat.reduceSub, Nat.reduceLeDiff, Nat.reduceMul, Nat.reduceLT, Nat.reduceEqDiff, Int.reduceLT, Int.reduceLE, Int.reduceAdd, Int.reduceSub, Int.reduceMul, Int.reduceToNat, reduceIte, reduceCtorEq, Nat.reduceBEq, hfit, lc_fit, scs_fit, fit, ren, gmap, lw_plain, true_or, or_true]
  · by_cases h1 : nG = nH
    · have d0 : decide (nG = nH) = true := decide_eq_true h1
      refine run_driveS 80 ?_
      simp only [go_sem, Nat.reduceAdd, Nat.reduceSub, Nat.reduceLeDiff, Nat.reduceMul, Nat.reduceLT, Nat.reduceEqDiff, Int.reduceLT, Int.reduceLE, Int.reduceAdd, Int.reduceSub, Int.reduceMul, Int.reduceToNat, reduceIte, reduceCtorEq, Nat.reduceBEq, v12_2, eq_int, d0]
      refine run_cond_t (by rfl) ?_
      refine run_driveS 80 ?_
      simp only [go_sem, Nat.reduceAdd, Nat.reduceSub, Nat.reduceLeDiff, Nat.reduceMul, Nat.reduceLT, Nat.reduceEqDiff, Int.reduceLT, Int.reduceLE, Int.reduceAdd, Int.reduceSub, Int.reduceMul, Int.reduceToNat, reduceIte, reduceCtorEq, Nat.reduceBEq, v12_3]
      exact fin2 _ _ (fun k' f => hz k' f.2.1 f.1) rfl rfl
    · have d0 : decide (nG = nH) = false := decide_eq_false h1
      refine run_driveS 80 ?_
      simp only [go_sem, Nat.reduceAdd, Nat.reduceSub, Nat.reduceLeDiff, Nat.reduceMul, Nat.reduceLT, Nat.reduceEqDiff, Int.reduceLT, Int.reduceLE, Int.reduceAdd, Int.reduceSub, Int.reduceMul, Int.reduceToNat, reduceIte, reduceCtorEq, Nat.reduceBEq, v12_2, eq_int, d0]
      refine run_cond_t (by rfl) ?_
      refine run_driveS 80 ?_
      simp only [go_sem, Nat.reduceAdd, Nat.reduceSub, Nat.reduceLeDiff, Nat.reduceMul, Nat.reduceLT, Nat.reduceEqDiff, Int.reduceLT, Int.reduceLE, Int.reduceAdd, Int.reduceSub, Int.reduceMul, Int.reduceToNat, reduceIte, reduceCtorEq, Nat.reduceBEq, v12_3]
      exact fin2 _ _ (fun k' f => hz k' f.2.1 f.1) rfl rfl
end
section
attribute [local go_sem ↓] lc_len lc_take lc_drop lc_known lc_one lc_rens lc_cells lw_known lw_agg lw_asG scs_known scs_one scs_len
attribute [local go_sem] lt_nat lt_natl lt_lnat lt_ll bool_tf bool_ft
attribute [local go_sem ↓] ecs_len ecs_take ecs_drop ecs_known ecs_one ecs_rens ecs_fit ecs_cells ew_known ew_agg ew_asG ecs_kind ecs_k ecs_l ers_known ers_one ers_len ers_rens ers_fit
attribute [local go_sem ↓] ecs_take_add ecs_drop_add lc_take_add lc_drop_add lenO_de lenO_dv de_known dv_known de_one dv_one de_ren dv_ren
set_option maxRecDepth 100000
set_option maxHeartbeats 1000000
def blv (n i : Nat) : List V := [.unk, .sl 0 0 n (.grow 26), .unk, .sl 0 (n * 26) n (.grow 26), .ptr 1 0, .unk, .ptr 2 0, .unk, .unk, de 3 i, .int .i64 i] ++ List.replicate 23 .unk
theorem ers_get2 (n : Nat) (f : Nat → Nat) {i : Nat} (h : i < n) : ((ers (2 * n) f).drop (n * 26 + i * 26)).take 26 = ecs (f (n + i)) := by
  rw [← Nat.add_mul]
  exact ers_get (2 * n) f (by omega)
theorem blend_loop (g r : Nat → Nat) (hg : ∀ j, g j < 115792089237316195423570985008687907853269984665640564039457584007913129639936) (x y n : Nat) (hx : x < 115792089237316195423570985008687907853269984665640564039457584007913129639936) (hy : y < 115792089237316195423570985008687907853269984665640564039457584007913129639936) (hn : n < 1000000) (hr : ∀ j, j < n → r j = (g j * x % ell + g (n + j) * y % ell) % ell) {Q : V → Heap → Prop} {K : List TI}
    (hK : Run Tryd.prog G 87 1 Q (K, ⟨blv n n, [some ⟨.ro, ers (2 * n) g⟩, some ⟨.rw, lc x⟩, some ⟨.rw, lc y⟩, ebg r n]⟩)) : ∀ k i, i + k = n → Run Tryd.prog G 87 1 Q (.l v87_7 :: .b 0 :: K, ⟨blv n i, [some ⟨.ro, ers (2 * n) g⟩, some ⟨.rw, lc x⟩, some ⟨.rw, lc y⟩, ebg r i]⟩)
  | 0, i, h => by
    obtain rfl : i = n := by omega
    have h0 : ((i : Int) < (i : Int)) = False := eq_false (by omega)
    unfold blv
    by_cases hi : i = 0
    · subst hi
      rw [show de 3 0 = .nils from rfl, show ebg r 0 = none from rfl]
      refine run_loop_eq v87_7.eq_1 ?_
      refine run_driveS 80 ?_
      simp only [go_sem, Nat.reduceAdd, Nat.reduceSub, Nat.reduceLeDiff, Nat.reduceMul, Nat.reduceLT, Nat.reduceEqDiff, Int.reduceLT, Int.reduceLE, Int.reduceAdd, Int.reduceSub, Int.reduceMul, Int.reduceToNat, reduceIte, reduceCtorEq, Nat.reduceBEq, v87_3]
      refine run_exit rfl ?_
      refine run_rename [0, 1, 2, 3] rfl (by simp) ?_ ?_ ?_ hK
      · rw [show ebg r 0 = none from rfl]
        simp only [go_sem, Nat.reduceAdd, Nat.reduceSub, Nat.reduceLeDiff, Nat.reduceMul, Nat.reduceLT, Nat.reduceEqDiff, Int.reduceLT, Int.reduceLE, Int.reduceAdd, Int.reduceSub, Int.reduceMul, Int.reduceToNat, reduceIte, reduceCtorEq, Nat.reduceBEq, hfit, lc_fit, scs_fit, fit, ren, gmap, lw_plain, true_or, or_true]
      · simp [uniq, ebg, wrB]
      · unfold blv
        rw [show de 3 0 = .nils from rfl]
        simp only [go_sem, Nat.reduceAdd, Nat.reduceSub, Nat.reduceLeDiff, Nat.reduceMul, Nat.reduceLT, Nat.reduceEqDiff, Int.reduceLT, Int.reduceLE, Int.reduceAdd, Int.reduceSub, Int.reduceMul, Int.reduceToNat, reduceIte, reduceCtorEq, Nat.reduceBEq, hfit, lc_fit, scs_fit, fit, ren, gmap, lw_plain, true_or, or_true]
    · rw [de_pos (by omega), ebg_pos (by omega)]
      refine run_loop_eq v87_7.eq_1 ?_
      refine run_driveS 80 ?_
      simp only [go_sem, Nat.reduceAdd, Nat.reduceSub, Nat.reduceLeDiff, Nat.reduceMul, Nat.reduceLT, Nat.reduceEqDiff, Int.reduceLT, Int.reduceLE, Int.reduceAdd, Int.reduceSub, Int.reduceMul, Int.reduceToNat, reduceIte, reduceCtorEq, Nat.reduceBEq, v87_3, h0]
      refine run_exit rfl ?_
      refine run_rename [0, 1, 2, 3] rfl (by simp) ?_ ?_ ?_ hK
      · rw [ebg_pos (by omega)]
        simp only [go_sem, Nat.reduceAdd, Nat.reduceSub, Nat.reduceLeDiff, Nat.reduceMul, Nat.reduceLT, Nat.reduceEqDiff, Int.reduceLT, Int.reduceLE, Int.reduceAdd, Int.reduceSub, Int.reduceMul, Int.reduceToNat, reduceIte, reduceCtorEq, Nat.reduceBEq, hfit, lc_fit, scs_fit, fit, ren, gmap, lw_plain, true_or, or_true]
      · simp [uniq, ebg_pos (show 0 < i by omega), wrB]
      · unfold blv
        rw [de_pos (by omega)]
        simp only [go_sem, Nat.reduceAdd, Nat.reduceSub, Nat.reduceLeDiff, Nat.reduceMul, Nat.reduceLT, Nat.reduceEqDiff, Int.reduceLT, Int.reduceLE, Int.reduceAdd, Int.reduceSub, Int.reduceMul, Int.reduceToNat, reduceIte, reduceCtorEq, Nat.reduceBEq, hfit, lc_fit, scs_fit, fit, ren, gmap, lw_plain, true_or, or_true]
  | k + 1, i, h => by
    have ih := blend_loop g r hg x y n hx hy hn hr hK k (i + 1) (by omega)
    have h0 : ((i : Int) < (n : Int)) = True := eq_true (by omega)
    have hg1 := ers_get (2 * n) g (i := i) (by omega)
    have hg2 := ers_get2 n g (i := i) (by omega)
    have hw : IntKind.i64.wrap ((i : Int) + 1) = ((i + 1 : Nat) : Int) := by rw [wrap_i64 (by omega) (by omega)]; omega
    have hri := hr i (by omega)
    unfold blv
    by_cases hi : i = 0
    · subst hi
      have h0' : ((0 : Int) < (n : Int)) = True := eq_true (by omega)
      rw [Nat.zero_mul, List.drop_zero] at hg1
      rw [Nat.zero_mul, Nat.add_zero, Nat.add_zero] at hg2
      rw [Nat.add_zero] at hri
      rw [show de 3 0 = .nils from rfl, show ebg r 0 = none from rfl]
      refine run_loop_eq v87_7.eq_1 ?_
      refine run_driveS 80 ?_
      simp only [go_sem, Nat.reduceAdd, Nat.reduceSub, Nat.reduceLeDiff, Nat.reduceMul, Nat.reduceLT, Nat.reduceEqDiff, Int.reduceLT, Int.reduceLE, Int.reduceAdd, Int.reduceSub, Int.reduceMul, Int.reduceToNat, reduceIte, reduceCtorEq, Nat.reduceBEq, v87_3, v87_5, h0']
      refine run_drw (by kernel_rfl) ?_
      refine drun_drive 40 (p := (_, _)) ?_
      simp only [go_sem, Nat.reduceAdd, Nat.reduceSub, Nat.reduceLeDiff, Nat.reduceMul, Nat.reduceLT, Nat.reduceEqDiff, Int.reduceLT, Int.reduceLE, Int.reduceAdd, Int.reduceSub, Int.reduceMul, Int.reduceToNat, reduceIte, reduceCtorEq, Nat.reduceBEq, v87_4, h0', hg1, hg2]
      refine drun_call' ?_
      simp only [go_sem, Nat.reduceAdd, Nat.reduceSub, Nat.reduceLeDiff, Nat.reduceMul, Nat.reduceLT, Nat.reduceEqDiff, Int.reduceLT, Int.reduceLE, Int.reduceAdd, Int.reduceSub, Int.reduceMul, Int.reduceToNat, reduceIte, reduceCtorEq, Nat.reduceBEq, calV]
      refine e_times _ _ (hg 0) hx ?_
      refine drun_drive 40 (p := (_, _)) ?_
      simp only [go_sem, Nat.reduceAdd, Nat.reduceSub, Nat.reduceLeDiff, Nat.reduceMul, Nat.reduceLT, Nat.reduceEqDiff, Int.reduceLT, Int.reduceLE, Int.reduceAdd, Int.reduceSub, Int.reduceMul, Int.reduceToNat, reduceIte, reduceCtorEq, Nat.reduceBEq]
      refine drun_call' ?_
      simp only [go_sem, Nat.reduceAdd, Nat.reduceSub, Nat.reduceLeDiff, Nat.reduceMul, Nat.reduceLT, Nat.reduceEqDiff, Int.reduceLT, Int.reduceLE, Int.reduceAdd, Int.reduceSub, Int.reduceMul, Int.reduceToNat, reduceIte, reduceCtorEq, Nat.reduceBEq, calV]
      refine e_times _ _ (hg n) hy ?_
      refine drun_drive 40 (p := (_, _)) ?_
      simp only [go_sem, Nat.reduceAdd, Nat.reduceSub, Nat.reduceLeDiff, Nat.reduceMul, Nat.reduceLT, Nat.reduceEqDiff, Int.reduceLT, Int.reduceLE, Int.reduceAdd, Int.reduceSub, Int.reduceMul, Int.reduceToNat, reduceIte, reduceCtorEq, Nat.reduceBEq]
      refine drun_call' ?_
      simp only [go_sem, Nat.reduceAdd, Nat.reduceSub, Nat.reduceLeDiff, Nat.reduceMul, Nat.reduceLT, Nat.reduceEqDiff, Int.reduceLT, Int.reduceLE, Int.reduceAdd, Int.reduceSub, Int.reduceMul, Int.reduceToNat, reduceIte, reduceCtorEq, Nat.reduceBEq, calV]
      refine e_add _ _ (mod_lt' _) (mod_lt' _) ?_
      rw [← hri]
      refine drun_drive 40 (p := (_, _)) ?_
      simp only [go_sem, Nat.reduceAdd, Nat.reduceSub, Nat.reduceLeDiff, Nat.reduceMul, Nat.reduceLT, Nat.reduceEqDiff, Int.reduceLT, Int.reduceLE, Int.reduceAdd, Int.reduceSub, Int.reduceMul, Int.reduceToNat, reduceIte, reduceCtorEq, Nat.reduceBEq]
      refine drun_end ?_
      refine run_driveS 80 ?_
      simp only [go_sem, Nat.reduceAdd, Nat.reduceSub, Nat.reduceLeDiff, Nat.reduceMul, Nat.reduceLT, Nat.reduceEqDiff, Int.reduceLT, Int.reduceLE, Int.reduceAdd, Int.reduceSub, Int.reduceMul, Int.reduceToNat, reduceIte, reduceCtorEq, Nat.reduceBEq, v87_6]
      refine run_rename [0, 1, 2, 5] rfl (by simp) ?_ ?_ ?_ ih
      · rw [ebg_pos (by omega), show ers (0 + 1) r = ecs (r 0) from rfl]
        simp only [go_sem, Nat.reduceAdd, Nat.reduceSub, Nat.reduceLeDiff, Nat.reduceMul, Nat.reduceLT, Nat.reduceEqDiff, Int.reduceLT, Int.reduceLE, Int.reduceAdd, Int.reduceSub, Int.reduceMul, Int.reduceToNat, reduceIte, reduceCtorEq, Nat.reduceBEq, hfit, lc_fit, scs_fit, fit, ren, gmap, lw_plain, true_or, or_true]
      · simp [uniq, ebg, wrB]
      · unfold blv
        rw [de_pos (by omega)]
        simp only [go_sem, Nat.reduceAdd, Nat.reduceSub, Nat.reduceLeDiff, Nat.reduceMul, Nat.reduceLT, Nat.reduceEqDiff, Int.reduceLT, Int.reduceLE, Int.reduceAdd, Int.reduceSub, Int.reduceMul, Int.reduceToNat, reduceIte, reduceCtorEq, Nat.reduceBEq, hfit, lc_fit, scs_fit, fit, ren, gmap, lw_plain, true_or, or_true]
    · have hi : 0 < i := by omega
      rw [de_pos hi, ebg_pos hi]
      have a1 : ((i + 1) * 224 ≤ 140737488355328) = True := eq_true (by omega)
      have a2 : (i + 1 ≤ 9223372036854775807) = True := eq_true (by omega)
      have a3 := ers_snoc i r (v := r i) rfl
      refine run_loop_eq v87_7.eq_1 ?_
      refine run_driveS 80 ?_
      simp only [go_sem, Nat.reduceAdd, Nat.reduceSub, Nat.reduceLeDiff, Nat.reduceMul, Nat.reduceLT, Nat.reduceEqDiff, Int.reduceLT, Int.reduceLE, Int.reduceAdd, Int.reduceSub, Int.reduceMul, Int.reduceToNat, reduceIte, reduceCtorEq, Nat.reduceBEq, v87_3, v87_5, h0]
      refine run_drw (by kernel_rfl) ?_
      refine drun_drive 40 (p := (_, _)) ?_
      simp only [go_sem, Nat.reduceAdd, Nat.reduceSub, Nat.reduceLeDiff, Nat.reduceMul, Nat.reduceLT, Nat.reduceEqDiff, Int.reduceLT, Int.reduceLE, Int.reduceAdd, Int.reduceSub, Int.reduceMul, Int.reduceToNat, reduceIte, reduceCtorEq, Nat.reduceBEq, v87_4, h0, hg1, hg2]
      refine drun_call' ?_
      simp only [go_sem, Nat.reduceAdd, Nat.reduceSub, Nat.reduceLeDiff, Nat.reduceMul, Nat.reduceLT, Nat.reduceEqDiff, Int.reduceLT, Int.reduceLE, Int.reduceAdd, Int.reduceSub, Int.reduceMul, Int.reduceToNat, reduceIte, reduceCtorEq, Nat.reduceBEq, calV]
      refine e_times _ _ (hg i) hx ?_
      refine drun_drive 40 (p := (_, _)) ?_
      simp only [go_sem, Nat.reduceAdd, Nat.reduceSub, Nat.reduceLeDiff, Nat.reduceMul, Nat.reduceLT, Nat.reduceEqDiff, Int.reduceLT, Int.reduceLE, Int.reduceAdd, Int.reduceSub, Int.reduceMul, Int.reduceToNat, reduceIte, reduceCtorEq, Nat.reduceBEq]
      refine drun_call' ?_
      simp only [go_sem, Nat.reduceAdd, Nat.reduceSub, Nat.reduceLeDiff, Nat.reduceMul, Nat.reduceLT, Nat.reduceEqDiff, Int.reduceLT, Int.reduceLE, Int.reduceAdd, Int.reduceSub, Int.reduceMul, Int.reduceToNat, reduceIte, reduceCtorEq, Nat.reduceBEq, calV]
      refine e_times _ _ (hg (n + i)) hy ?_
      refine drun_drive 40 (p := (_, _)) ?_
      simp only [go_sem, Nat.reduceAdd, Nat.reduceSub, Nat.reduceLeDiff, Nat.reduceMul, Nat.reduceLT, Nat.reduceEqDiff, Int.reduceLT, Int.reduceLE, Int.reduceAdd, Int.reduceSub, Int.reduceMul, Int.reduceToNat, reduceIte, reduceCtorEq, Nat.reduceBEq]
      refine drun_call' ?_
      simp only [go_sem, Nat.reduceAdd, Nat.reduceSub, Nat.reduceLeDiff, Nat.reduceMul, Nat.reduceLT, Nat.reduceEqDiff, Int.reduceLT, Int.reduceLE, Int.reduceAdd, Int.reduceSub, Int.reduceMul, Int.reduceToNat, reduceIte, reduceCtorEq, Nat.reduceBEq, calV]
      refine e_add _ _ (mod_lt' _) (mod_lt' _) ?_
      rw [← hri]
      refine drun_drive 40 (p := (_, _)) ?_
      simp only [go_sem, Nat.reduceAdd, Nat.reduceSub, Nat.reduceLeDiff, Nat.reduceMul, Nat.reduceLT, Nat.reduceEqDiff, Int.reduceLT, Int.reduceLE, Int.reduceAdd, Int.reduceSub, Int.reduceMul, Int.reduceToNat, reduceIte, reduceCtorEq, Nat.reduceBEq, a1, a2, a3]
      refine drun_end ?_
      refine run_driveS 80 ?_
      simp only [go_sem, Nat.reduceAdd, Nat.reduceSub, Nat.reduceLeDiff, Nat.reduceMul, Nat.reduceLT, Nat.reduceEqDiff, Int.reduceLT, Int.reduceLE, Int.reduceAdd, Int.reduceSub, Int.reduceMul, Int.reduceToNat, reduceIte, reduceCtorEq, Nat.reduceBEq, v87_6, hw]
      refine run_rename [0, 1, 2, 5] rfl (by simp) ?_ ?_ ?_ ih
      · rw [ebg_pos (by omega)]
        simp only [go_sem, Nat.reduceAdd, Nat.reduceSub, Nat.reduceLeDiff, Nat.reduceMul, Nat.reduceLT, Nat.reduceEqDiff, Int.reduceLT, Int.reduceLE, Int.reduceAdd, Int.reduceSub, Int.reduceMul, Int.reduceToNat, reduceIte, reduceCtorEq, Nat.reduceBEq, hfit, lc_fit, scs_fit, fit, ren, gmap, lw_plain, true_or, or_true]
      · simp [uniq, ebg, wrB]
      · unfold blv
        rw [de_pos (by omega)]
        simp only [go_sem, Nat.reduceAdd, Nat.reduceSub, Nat.reduceLeDiff, Nat.reduceMul, Nat.reduceLT, Nat.reduceEqDiff, Int.reduceLT, Int.reduceLE, Int.reduceAdd, Int.reduceSub, Int.reduceMul, Int.reduceToNat, reduceIte, reduceCtorEq, Nat.reduceBEq, hfit, lc_fit, scs_fit, fit, ren, gmap, lw_plain, true_or, or_true]
theorem blend (g r : Nat → Nat) (hg : ∀ j, g j < 115792089237316195423570985008687907853269984665640564039457584007913129639936) (x y n : Nat) (hx : x < 115792089237316195423570985008687907853269984665640564039457584007913129639936) (hy : y < 115792089237316195423570985008687907853269984665640564039457584007913129639936) (hn : n < 1000000) (hn0 : 0 < n) (hr : ∀ j, j < n → r j = (g j * x % ell + g (n + j) * y % ell) % ell) (Q : V → Heap → Prop)
    (hQ : Q (.sl 1 0 n (.grow 26)) [some ⟨.ro, ers (2 * n) g⟩, some ⟨.grow, ers n r⟩]) : VCall Tryd.prog G 87 [lw x, .sl 0 0 n (.grow 26), lw y, .sl 0 (n * 26) n (.grow 26)] [some ⟨.ro, ers (2 * n) g⟩] Q := by
  refine vcall_body Tryd.func87 nm87 code87 nt87 ?_
  refine run_driveS 80 ?_
  simp only [go_sem, Nat.reduceAdd, Nat.reduceSub, Nat.reduceLeDiff, Nat.reduceMul, Nat.reduceLT, Nat.reduceEqDiff, Int.reduceLT, Int.reduceLE, Int.reduceAdd, Int.reduceSub, Int.reduceMul, Int.reduceToNat, reduceIte, reduceCtorEq, Nat.reduceBEq, v87, v87_0, v87_1, v87_2, v87_8]
  refine run_rename [0, 1, 2, 3] rfl (by simp) ?_ ?_ ?_ (blend_loop g r hg x y n hx hy hn hr (K := [.c (.seq (.reg v87_9) .ret)]) ?_ n 0 (by omega))
  · rw [show ebg r 0 = none from rfl]
    simp only [go_sem, Nat.reduceAdd, Nat.reduceSub, Nat.reduceLeDiff, Nat.reduceMul, Nat.reduceLT, Nat.reduceEqDiff, Int.reduceLT, Int.reduceLE, Int.reduceAdd, Int.reduceSub, Int.reduceMul, Int.reduceToNat, reduceIte, reduceCtorEq, Nat.reduceBEq, hfit, lc_fit, scs_fit, fit, ren, gmap, lw_plain, true_or, or_true]
  · simp [uniq, ebg, wrB]
  · unfold blv
    rw [show de 3 0 = .nils from rfl]
    simp only [go_sem, Nat.reduceAdd, Nat.reduceSub, Nat.reduceLeDiff, Nat.reduceMul, Nat.reduceLT, Nat.reduceEqDiff, Int.reduceLT, Int.reduceLE, Int.reduceAdd, Int.reduceSub, Int.reduceMul, Int.reduceToNat, reduceIte, reduceCtorEq, Nat.reduceBEq, hfit, lc_fit, scs_fit, fit, ren, gmap, lw_plain, true_or, or_true]
  · unfold blv
    rw [de_pos hn0, ebg_pos hn0]
    refine run_driveS 80 ?_
    simp only [go_sem, Nat.reduceAdd, Nat.reduceSub, Nat.reduceLeDiff, Nat.reduceMul, Nat.reduceLT, Nat.reduceEqDiff, Int.reduceLT, Int.reduceLE, Int.reduceAdd, Int.reduceSub, Int.reduceMul, Int.reduceToNat, reduceIte, reduceCtorEq, Nat.reduceBEq, v87_9]
    refine run_ret_drop Tryd.func87 res87 [0, 3] (.sl 1 0 n (.grow 26)) _ rfl (by simp) ?_ ?_ ?_ hQ
    · simp only [go_sem, Nat.reduceAdd, Nat.reduceSub, Nat.reduceLeDiff, Nat.reduceMul, Nat.reduceLT, Nat.reduceEqDiff, Int.reduceLT, Int.reduceLE, Int.reduceAdd, Int.reduceSub, Int.reduceMul, Int.reduceToNat, reduceIte, reduceCtorEq, Nat.reduceBEq, hfit, lc_fit, scs_fit, fit, ren, gmap, lw_plain, true_or, or_true]
    · simp [uniq, wrB]
    · simp only [go_sem, Nat.reduceAdd, Nat.reduceSub, Nat.reduceLeDiff, Nat.reduceMul, Nat.reduceLT, Nat.reduceEqDiff, Int.reduceLT, Int.reduceLE, Int.reduceAdd, Int.reduceSub, Int.reduceMul, Int.reduceToNat, reduceIte, reduceCtorEq, Nat.reduceBEq, rr87, ren, gmap]
end
section
attribute [local go_sem ↓] lc_len lc_take lc_drop lc_known lc_one lc_rens lc_cells lw_known lw_agg lw_asG scs_known scs_one scs_len
attribute [local go_sem] lt_nat lt_natl lt_lnat lt_ll bool_tf bool_ft
attribute [local go_sem ↓] ecs_len ecs_take ecs_drop ecs_known ecs_one ecs_rens ecs_fit ecs_cells ew_known ew_agg ew_asG ecs_kind ecs_k ecs_l ers_known ers_one ers_len ers_rens ers_fit
attribute [local go_sem ↓] ecs_take_add ecs_drop_add lc_take_add lc_drop_add lenO_de lenO_dv de_known dv_known de_one dv_one de_ren dv_ren
set_option maxRecDepth 100000
set_option maxHeartbeats 1000000
theorem ecs_take0 (a : Nat) (l : List V) : (ecs a ++ l).take 26 = ecs a := rfl
theorem ecs_drop0 (a : Nat) (l : List V) : (ecs a ++ l).drop 26 = l := rfl
theorem zero54 : [V.int .i64 0, .int .i64 0, .int .i64 0, .int .i64 0, .int .i64 0, .int .i64 0, .int .i64 0, .int .i64 0, .int .i64 0, .int .i64 0, .int .i64 0, .int .i64 0, .int .i64 0, .int .i64 0, .int .i64 0, .int .i64 0, .int .i64 0, .int .i64 0, .int .i64 0, .int .i64 0, .int .i64 0, .int .u64 (nl 0), .int .u64 (nl 0), .int .u64 (nl 0), .int .u64 (nl 0), .nils].length = 26 := rfl
theorem fold_ref (g h : Nat → Nat) (hg : ∀ j, g j < 115792089237316195423570985008687907853269984665640564039457584007913129639936) (hh : ∀ j, h j < 115792089237316195423570985008687907853269984665640564039457584007913129639936) (P Q' L R u n : Nat) (hP : P < ell) (hL : L < 115792089237316195423570985008687907853269984665640564039457584007913129639936) (hR : R < 115792089237316195423570985008687907853269984665640564039457584007913129639936) (hu : u < ell) (hn : n < 1000000) (hn0 : 0 < n) (g' h' : Nat → Nat)
    (hg' : ∀ j, j < n → g' j = (g j * linv u % ell + g (n + j) * u % ell) % ell) (hh' : ∀ j, j < n → h' j = (h j * u % ell + h (n + j) * linv u % ell) % ell) (Q : V → Heap → Prop)
    (hQ : Q (stE (((L * (u * u % ell) % ell + P) % ell + R * (linv u * linv u % ell) % ell) % ell) Q' (.sl 2 0 n (.grow 26)) (.sl 3 0 n (.grow 26))) [some ⟨.ro, ers (2 * n) g⟩, some ⟨.ro, ers (2 * n) h⟩, some ⟨.grow, ers n g'⟩, some ⟨.grow, ers n h'⟩]) :
    VCall Tryd.prog G 59 [stE P Q' (.sl 0 0 (2 * n) (.grow 26)) (.sl 1 0 (2 * n) (.grow 26)), ew L, ew R, lw u] [some ⟨.ro, ers (2 * n) g⟩, some ⟨.ro, ers (2 * n) h⟩] Q := by
  have hl := ell_lt
  have hv := linv_lt u
  have hq : binI .quo .i64 ((2 * n : Nat) : Int) .i64 2 = some (.int .i64 (n : Int)) := by
    rw [b_quo_i _ _ (by decide), show ((2 * n : Nat) : Int).tdiv 2 = ((2 * n / 2 : Nat) : Int) from (Int.ofNat_tdiv (2 * n) 2).symm, wrap_i64 (by omega) (by omega)]
    congr 2
    omega
  have hle : ((n : Int) ≤ ((2 * n : Nat) : Int)) = True := eq_true (by omega)
  have hsub : (((2 * n : Nat) : Int) - (n : Int)).toNat = n := by omega
  have hlt : ((n : Int) < ((2 * n : Nat) : Int)) = True := eq_true (by omega)
  refine vcall_body Tryd.func59 nm59 code59 nt59 ?_
  unfold stE
  refine run_driveS 80 ?_
  simp only [go_sem, Nat.reduceAdd, Nat.reduceSub, Nat.reduceLeDiff, Nat.reduceMul, Nat.reduceLT, Nat.reduceEqDiff, Int.reduceLT, Int.reduceLE, Int.reduceAdd, Int.reduceSub, Int.reduceMul, Int.reduceToNat, reduceIte, reduceCtorEq, Nat.reduceBEq, v59, v59_0, v59_1]
  refine run_call' rfl ?_
  simp only [go_sem, Nat.reduceAdd, Nat.reduceSub, Nat.reduceLeDiff, Nat.reduceMul, Nat.reduceLT, Nat.reduceEqDiff, Int.reduceLT, Int.reduceLE, Int.reduceAdd, Int.reduceSub, Int.reduceMul, Int.reduceToNat, reduceIte, reduceCtorEq, Nat.reduceBEq, calV]
  refine ref_invert u hu ?_
  refine run_driveS 80 ?_
  simp only [go_sem, Nat.reduceAdd, Nat.reduceSub, Nat.reduceLeDiff, Nat.reduceMul, Nat.reduceLT, Nat.reduceEqDiff, Int.reduceLT, Int.reduceLE, Int.reduceAdd, Int.reduceSub, Int.reduceMul, Int.reduceToNat, reduceIte, reduceCtorEq, Nat.reduceBEq, v59_2, hq]
  refine run_drw (by kernel_rfl) ?_
  refine drun_drive 40 (p := (_, _)) ?_
  simp only [go_sem, Nat.reduceAdd, Nat.reduceSub, Nat.reduceLeDiff, Nat.reduceMul, Nat.reduceLT, Nat.reduceEqDiff, Int.reduceLT, Int.reduceLE, Int.reduceAdd, Int.reduceSub, Int.reduceMul, Int.reduceToNat, reduceIte, reduceCtorEq, Nat.reduceBEq, v59_3, hle, hlt, true_or, or_true]
  refine drun_call' ?_
  simp only [go_sem, Nat.reduceAdd, Nat.reduceSub, Nat.reduceLeDiff, Nat.reduceMul, Nat.reduceLT, Nat.reduceEqDiff, Int.reduceLT, Int.reduceLE, Int.reduceAdd, Int.reduceSub, Int.reduceMul, Int.reduceToNat, reduceIte, reduceCtorEq, Nat.reduceBEq, calV]
  refine ref_mul _ _ (by omega) (by omega) ?_
  refine drun_drive 40 (p := (_, _)) ?_
  simp only [go_sem, Nat.reduceAdd, Nat.reduceSub, Nat.reduceLeDiff, Nat.reduceMul, Nat.reduceLT, Nat.reduceEqDiff, Int.reduceLT, Int.reduceLE, Int.reduceAdd, Int.reduceSub, Int.reduceMul, Int.reduceToNat, reduceIte, reduceCtorEq, Nat.reduceBEq]
  refine drun_call' ?_
  simp only [go_sem, Nat.reduceAdd, Nat.reduceSub, Nat.reduceLeDiff, Nat.reduceMul, Nat.reduceLT, Nat.reduceEqDiff, Int.reduceLT, Int.reduceLE, Int.reduceAdd, Int.reduceSub, Int.reduceMul, Int.reduceToNat, reduceIte, reduceCtorEq, Nat.reduceBEq, calV]
  refine e_times _ _ hL (mod_lt _) ?_
  refine drun_drive 40 (p := (_, _)) ?_
  simp only [go_sem, Nat.reduceAdd, Nat.reduceSub, Nat.reduceLeDiff, Nat.reduceMul, Nat.reduceLT, Nat.reduceEqDiff, Int.reduceLT, Int.reduceLE, Int.reduceAdd, Int.reduceSub, Int.reduceMul, Int.reduceToNat, reduceIte, reduceCtorEq, Nat.reduceBEq]
  refine drun_call' ?_
  simp only [go_sem, Nat.reduceAdd, Nat.reduceSub, Nat.reduceLeDiff, Nat.reduceMul, Nat.reduceLT, Nat.reduceEqDiff, Int.reduceLT, Int.reduceLE, Int.reduceAdd, Int.reduceSub, Int.reduceMul, Int.reduceToNat, reduceIte, reduceCtorEq, Nat.reduceBEq, calV]
  refine e_add _ _ (mod_lt' _) hP ?_
  refine drun_drive 40 (p := (_, _)) ?_
  simp only [go_sem, Nat.reduceAdd, Nat.reduceSub, Nat.reduceLeDiff, Nat.reduceMul, Nat.reduceLT, Nat.reduceEqDiff, Int.reduceLT, Int.reduceLE, Int.reduceAdd, Int.reduceSub, Int.reduceMul, Int.reduceToNat, reduceIte, reduceCtorEq, Nat.reduceBEq]
  refine drun_call' ?_
  simp only [go_sem, Nat.reduceAdd, Nat.reduceSub, Nat.reduceLeDiff, Nat.reduceMul, Nat.reduceLT, Nat.reduceEqDiff, Int.reduceLT, Int.reduceLE, Int.reduceAdd, Int.reduceSub, Int.reduceMul, Int.reduceToNat, reduceIte, reduceCtorEq, Nat.reduceBEq, calV]
  refine ref_mul _ _ (by omega) (by omega) ?_
  refine drun_drive 40 (p := (_, _)) ?_
  simp only [go_sem, Nat.reduceAdd, Nat.reduceSub, Nat.reduceLeDiff, Nat.reduceMul, Nat.reduceLT, Nat.reduceEqDiff, Int.reduceLT, Int.reduceLE, Int.reduceAdd, Int.reduceSub, Int.reduceMul, Int.reduceToNat, reduceIte, reduceCtorEq, Nat.reduceBEq]
  refine drun_call' ?_
  simp only [go_sem, Nat.reduceAdd, Nat.reduceSub, Nat.reduceLeDiff, Nat.reduceMul, Nat.reduceLT, Nat.reduceEqDiff, Int.reduceLT, Int.reduceLE, Int.reduceAdd, Int.reduceSub, Int.reduceMul, Int.reduceToNat, reduceIte, reduceCtorEq, Nat.reduceBEq, calV]
  refine e_times _ _ hR (mod_lt _) ?_
  refine drun_drive 40 (p := (_, _)) ?_
  simp only [go_sem, Nat.reduceAdd, Nat.reduceSub, Nat.reduceLeDiff, Nat.reduceMul, Nat.reduceLT, Nat.reduceEqDiff, Int.reduceLT, Int.reduceLE, Int.reduceAdd, Int.reduceSub, Int.reduceMul, Int.reduceToNat, reduceIte, reduceCtorEq, Nat.reduceBEq]
  refine drun_call' ?_
  simp only [go_sem, Nat.reduceAdd, Nat.reduceSub, Nat.reduceLeDiff, Nat.reduceMul, Nat.reduceLT, Nat.reduceEqDiff, Int.reduceLT, Int.reduceLE, Int.reduceAdd, Int.reduceSub, Int.reduceMul, Int.reduceToNat, reduceIte, reduceCtorEq, Nat.reduceBEq, calV]
  refine e_add _ _ (mod_lt' _) (mod_lt' _) ?_
  refine drun_drive 40 (p := (_, _)) ?_
  simp only [go_sem, Nat.reduceAdd, Nat.reduceSub, Nat.reduceLeDiff, Nat.reduceMul, Nat.reduceLT, Nat.reduceEqDiff, Int.reduceLT, Int.reduceLE, Int.reduceAdd, Int.reduceSub, Int.reduceMul, Int.reduceToNat, reduceIte, reduceCtorEq, Nat.reduceBEq]
  refine drun_call' ?_
  simp only [go_sem, Nat.reduceAdd, Nat.reduceSub, Nat.reduceLeDiff, Nat.reduceMul, Nat.reduceLT, Nat.reduceEqDiff, Int.reduceLT, Int.reduceLE, Int.reduceAdd, Int.reduceSub, Int.reduceMul, Int.reduceToNat, reduceIte, reduceCtorEq, Nat.reduceBEq, calV, hsub, maskH, List.mapIdx_cons, List.mapIdx_nil, List.contains_cons, List.contains_nil, Bool.or_false, Bool.or_true, Bool.false_or, Bool.true_or]
  refine vcall_at (blend g g' hg (linv u) u n (by omega) (by omega) hn hn0 hg' (fun v h => v = .sl 1 0 n (.grow 26) ∧ h = [some ⟨.ro, ers (2 * n) g⟩, some ⟨.grow, ers n g'⟩]) ⟨rfl, rfl⟩) [0] (by simp) ?_ ?_ ?_ ?_
  · simp only [go_sem, Nat.reduceAdd, Nat.reduceSub, Nat.reduceLeDiff, Nat.reduceMul, Nat.reduceLT, Nat.reduceEqDiff, Int.reduceLT, Int.reduceLE, Int.reduceAdd, Int.reduceSub, Int.reduceMul, Int.reduceToNat, reduceIte, reduceCtorEq, Nat.reduceBEq, hfit, lc_fit, scs_fit, fit, ren, gmap, lw_plain, true_or, or_true]
  · simp [uniq, wrB]
  · simp only [go_sem, Nat.reduceAdd, Nat.reduceSub, Nat.reduceLeDiff, Nat.reduceMul, Nat.reduceLT, Nat.reduceEqDiff, Int.reduceLT, Int.reduceLE, Int.reduceAdd, Int.reduceSub, Int.reduceMul, Int.reduceToNat, reduceIte, reduceCtorEq, Nat.reduceBEq, ren, rens, gmap, lw_plain]
  rintro v h'' ⟨rfl, rfl⟩
  simp only [go_sem, Nat.reduceAdd, Nat.reduceSub, Nat.reduceLeDiff, Nat.reduceMul, Nat.reduceLT, Nat.reduceEqDiff, Int.reduceLT, Int.reduceLE, Int.reduceAdd, Int.reduceSub, Int.reduceMul, Int.reduceToNat, reduceIte, reduceCtorEq, Nat.reduceBEq, ren, rens, gmap, puts, wrB, Bool.false_eq_true, if_false, if_true, renB, ers_rens, Option.map_some, Option.map_none, restore, List.mapIdx_cons, List.mapIdx_nil, List.contains_cons, List.contains_nil, Bool.or_false, Bool.or_true, Bool.false_or, Bool.true_or, Option.join_some]
  refine drun_call' ?_
  simp only [go_sem, Nat.reduceAdd, Nat.reduceSub, Nat.reduceLeDiff, Nat.reduceMul, Nat.reduceLT, Nat.reduceEqDiff, Int.reduceLT, Int.reduceLE, Int.reduceAdd, Int.reduceSub, Int.reduceMul, Int.reduceToNat, reduceIte, reduceCtorEq, Nat.reduceBEq, calV, maskH, List.mapIdx_cons, List.mapIdx_nil, List.contains_cons, List.contains_nil, Bool.or_false, Bool.or_true, Bool.false_or, Bool.true_or]
  refine vcall_at (blend h h' hh u (linv u) n (by omega) (by omega) hn hn0 hh' (fun v k => v = .sl 1 0 n (.grow 26) ∧ k = [some ⟨.ro, ers (2 * n) h⟩, some ⟨.grow, ers n h'⟩]) ⟨rfl, rfl⟩) [1] (by simp) ?_ ?_ ?_ ?_
  · simp only [go_sem, Nat.reduceAdd, Nat.reduceSub, Nat.reduceLeDiff, Nat.reduceMul, Nat.reduceLT, Nat.reduceEqDiff, Int.reduceLT, Int.reduceLE, Int.reduceAdd, Int.reduceSub, Int.reduceMul, Int.reduceToNat, reduceIte, reduceCtorEq, Nat.reduceBEq, hfit, lc_fit, scs_fit, fit, ren, gmap, lw_plain, true_or, or_true]
  · simp [uniq, wrB]
  · simp only [go_sem, Nat.reduceAdd, Nat.reduceSub, Nat.reduceLeDiff, Nat.reduceMul, Nat.reduceLT, Nat.reduceEqDiff, Int.reduceLT, Int.reduceLE, Int.reduceAdd, Int.reduceSub, Int.reduceMul, Int.reduceToNat, reduceIte, reduceCtorEq, Nat.reduceBEq, ren, rens, gmap, lw_plain]
  rintro v h'' ⟨rfl, rfl⟩
  simp only [go_sem, Nat.reduceAdd, Nat.reduceSub, Nat.reduceLeDiff, Nat.reduceMul, Nat.reduceLT, Nat.reduceEqDiff, Int.reduceLT, Int.reduceLE, Int.reduceAdd, Int.reduceSub, Int.reduceMul, Int.reduceToNat, reduceIte, reduceCtorEq, Nat.reduceBEq, ren, rens, gmap, puts, wrB, Bool.false_eq_true, if_false, if_true, renB, ers_rens, Option.map_some, Option.map_none, restore, List.mapIdx_cons, List.mapIdx_nil, List.contains_cons, List.contains_nil, Bool.or_false, Bool.or_true, Bool.false_or, Bool.true_or, Option.join_some]
  refine drun_drive 40 (p := (_, _)) ?_
  simp only [go_sem, Nat.reduceAdd, Nat.reduceSub, Nat.reduceLeDiff, Nat.reduceMul, Nat.reduceLT, Nat.reduceEqDiff, Int.reduceLT, Int.reduceLE, Int.reduceAdd, Int.reduceSub, Int.reduceMul, Int.reduceToNat, reduceIte, reduceCtorEq, Nat.reduceBEq, List.append_assoc]
  refine drun_end ?_
  refine run_driveS 80 ?_
  simp only [go_sem, Nat.reduceAdd, Nat.reduceSub, Nat.reduceLeDiff, Nat.reduceMul, Nat.reduceLT, Nat.reduceEqDiff, Int.reduceLT, Int.reduceLE, Int.reduceAdd, Int.reduceSub, Int.reduceMul, Int.reduceToNat, reduceIte, reduceCtorEq, Nat.reduceBEq]
  refine run_ret_drop Tryd.func59 res59 [0, 1, 8, 9] _ _ rfl (by simp) ?_ ?_ ?_ hQ
  · simp only [go_sem, Nat.reduceAdd, Nat.reduceSub, Nat.reduceLeDiff, Nat.reduceMul, Nat.reduceLT, Nat.reduceEqDiff, Int.reduceLT, Int.reduceLE, Int.reduceAdd, Int.reduceSub, Int.reduceMul, Int.reduceToNat, reduceIte, reduceCtorEq, Nat.reduceBEq, hfit, lc_fit, scs_fit, fit, ren, gmap, lw_plain, true_or, or_true]
  · simp [uniq, wrB]
  · simp only [go_sem, Nat.reduceAdd, Nat.reduceSub, Nat.reduceLeDiff, Nat.reduceMul, Nat.reduceLT, Nat.reduceEqDiff, Int.reduceLT, Int.reduceLE, Int.reduceAdd, Int.reduceSub, Int.reduceMul, Int.reduceToNat, reduceIte, reduceCtorEq, Nat.reduceBEq, rr59, stE_ren, ren, gmap]
    rfl
end
end Go.Vs.Tryd
namespace Go.Vs.Tryd
def sm (t : Nat → Nat) : Nat → Nat
  | 0 => 0
  | n + 1 => (sm t n + t n) % ell
theorem sm_lt (t : Nat → Nat) : ∀ n, sm t n < ell
  | 0 => ell_pos
  | n + 1 => mod_lt' _
theorem sm_congr {t t' : Nat → Nat} : ∀ {n}, (∀ j, j < n → t j % ell = t' j % ell) → sm t n = sm t' n
  | 0, _ => rfl
  | n + 1, h => by rw [sm, sm, sm_congr (n := n) fun j hj => h j (by omega), Nat.add_mod, h n (Nat.lt_succ_self n), ← Nat.add_mod]
theorem add_l (a b : Nat) : (a % ell + b) % ell = (a + b) % ell := Nat.mod_add_mod a ell b
theorem add_r (a b : Nat) : (a + b % ell) % ell = (a + b) % ell := Nat.add_mod_mod a b ell
theorem sm_split (t : Nat → Nat) (m : Nat) : ∀ n, sm t (m + n) = (sm t m + sm (fun j => t (m + j)) n) % ell
  | 0 => by rw [Nat.add_zero, sm, Nat.add_zero, Nat.mod_eq_of_lt (sm_lt t m)]
  | n + 1 => by rw [← Nat.add_assoc, sm, sm_split t m n, sm, add_l, add_r, Nat.add_assoc]
theorem sm_add (a b : Nat → Nat) : ∀ n, (sm a n + sm b n) % ell = sm (fun j => a j + b j) n
  | 0 => rfl
  | n + 1 => by
    rw [sm, sm, sm, ← sm_add a b n, add_l, add_r, add_l]
    congr 1
    omega
theorem sm_mul (c : Nat) (t : Nat → Nat) : ∀ n, c * sm t n % ell = sm (fun j => c * t j) n
  | 0 => rfl
  | n + 1 => by rw [sm, sm, ← sm_mul c t n, mmod', Nat.mul_add, add_l]
def fo (a b : Nat → Nat) (n k : Nat) (g : Nat → Nat) : Nat → Nat := fun j => (g j * a (n - 1 - k) + g (j + 2 ^ k) * b (n - 1 - k)) % ell
def gl (a b : Nat → Nat) (n : Nat) : Nat → (Nat → Nat) → Nat → Nat
  | 0, g => g
  | k + 1, g => gl a b n k (fo a b n k g)
def wt (a b : Nat → Nat) (n : Nat) : Nat → Nat → Nat
  | 0, _ => 1
  | k + 1, j => if j < 2 ^ k then wt a b n k j * a (n - 1 - k) % ell else wt a b n k (j - 2 ^ k) * b (n - 1 - k) % ell
theorem wt_lt (a b : Nat → Nat) (n : Nat) : ∀ k j, wt a b n k j < ell
  | 0, _ => show 1 < ell by decide
  | k + 1, j => by
    unfold wt
    split <;> exact mod_lt' _
theorem gl_sum (a b : Nat → Nat) (n : Nat) : ∀ k g, gl a b n k g 0 % ell = sm (fun j => wt a b n k j * g j) (2 ^ k)
  | 0, g => by
    show g 0 % ell = sm _ (0 + 1)
    rw [sm, sm, wt, Nat.one_mul, Nat.zero_add]
  | k + 1, g => by
    show gl a b n k (fo a b n k g) 0 % ell = _
    rw [gl_sum a b n k, show 2 ^ (k + 1) = 2 ^ k + 2 ^ k by rw [Nat.pow_succ]; omega, sm_split, sm_add]
    refine sm_congr fun j hj => ?_
    rw [wt, if_pos hj, wt, if_neg (by omega), Nat.add_sub_cancel_left]
    unfold fo
    rw [mmod', Nat.mul_add, Nat.add_comm (2 ^ k) j, ← add_l, ← add_r]
    conv => rhs; rw [← add_l, ← add_r, mmod, mmod]
    congr 2
    · congr 1
      rw [Nat.mul_right_comm, Nat.mul_assoc]
    · congr 1
      rw [Nat.mul_right_comm, Nat.mul_assoc]
theorem linv_mul' (x y : Nat) : linv (x * y) = linv x * linv y % ell := by
  rw [linv_eq, linv_eq, linv_eq, Nat.mul_pow, Nat.mul_mod]
theorem linv_mod' (a : Nat) : linv (a % ell) = linv a := by rw [linv_eq, linv_eq, ← Nat.pow_mod]
theorem linv_linv {a : Nat} (h : a % ell ≠ 0) : linv (linv a) = a % ell := by
  symm
  refine linv_of (mod_lt' a) ?_
  rw [mmod, Nat.mul_comm, linv_mul h]
theorem linv_one : linv 1 = 1 := (linv_of (by decide) (by decide)).symm
theorem wt_linv (a b a' b' : Nat → Nat) (n : Nat) : ∀ k, (∀ i, i < k → a' (n - 1 - i) % ell = linv (a (n - 1 - i)) ∧ b' (n - 1 - i) % ell = linv (b (n - 1 - i))) → ∀ j, wt a' b' n k j = linv (wt a b n k j)
  | 0, _, j => by rw [wt, wt, linv_one]
  | k + 1, h, j => by
    have ih := wt_linv a b a' b' n k fun i hi => h i (by omega)
    obtain ⟨h1, h2⟩ := h k (Nat.lt_succ_self k)
    unfold wt
    split
    · rw [linv_mod', linv_mul', ih, ← h1, mmod']
    · rw [linv_mod', linv_mul', ih, ← h2, mmod']
end Go.Vs.Tryd
namespace Go.Vs.Tryd
open Go.Proofs
variable {G : Nat → List V}
set_option linter.unusedSimpArgs false
attribute [local go_sem] lenO_nils lenO_sl sliceAtV Int.sub_zero List.length_append List.all_append ge_iff_le gt_iff_lt Int.natCast_nonneg Int.toNat_natCast Nat.mul_one b_and_ll b_shr_ll b_mul_ll b_add_ll b_or_ll b_shl_ll pick_ll pick_lc pick_bb driveS stopV drive stepV exo expo evs fillV isNil nilKind eqV eqL optA optM sliceAtV ev kn ldc stc splice appV srcV lenV setd wantV exitV rvs rv one List.length_cons List.length_nil List.cons_append List.nil_append List.append_nil List.replicate List.getD_cons_zero List.getD_cons_succ List.set_cons_zero List.set_cons_succ List.getElem?_cons_zero List.getElem?_cons_succ List.getElem?_nil List.take_succ_cons List.take_zero List.take_nil List.drop_succ_cons List.drop_zero List.drop_nil List.all_cons List.all_nil List.any_cons List.any_nil Bool.and_true Bool.true_and Bool.and_self Option.map_some Option.map_none Option.bind_some Option.some.injEq Nat.add_zero Nat.zero_add Int.toNat_zero Int.toNat_one Int.zero_add Int.add_zero if_true if_false ite_true ite_false and_true true_and and_self ne_eq not_false_eq_true not_true_eq_false decide_true decide_false Bool.false_eq_true Bool.not_true Bool.not_false beq_self_eq_true BEq.rfl Bool.not_eq_true Nat.le_refl Int.le_refl Nat.zero_le List.foldl List.map_cons List.map_nil Prod.mk.injEq Int.cast_ofNat_Int Int.zero_le_ofNat b_add_cc b_add_cl b_add_lc b_mul_cc b_mul_cl b_mul_lc b_sub_cc b_sub_cl b_sub_lc b_and_cc b_and_cl b_and_lc b_or_cc b_or_cl b_or_lc b_xor_cc b_xor_cl b_xor_lc b_andNot_cc b_andNot_cl b_andNot_lc b_shr_cc b_shr_cl b_shr_lc b_shl_cc b_shl_cl b_shl_lc b_lss b_leq b_gtr b_geq b_add_i b_sub_i b_mul_i beq_cc beq_cl beq_lc beq_ll b_quo_i b_rem_i neg_u64 wrap_i64 driveD stepD idsAt idOf maskH_nil restore_nil restore_mask List.filterMap_nil List.filterMap_cons VOp.looks VOp.makes exA cells_agg cells_int cells_bool cells_str cells_nilp cells_ptr cells_glob cells_nils cells_sl cells_nilf cells_fn cells_nili cells_ifc known_agg known_tup known_int known_bool known_str known_nilp known_ptr known_glob known_nils known_sl known_nilf known_fn known_nili known_ifc known_unk one_agg one_tup one_int one_bool one_str one_nilp one_ptr one_glob one_nils one_sl one_nilf one_fn one_nili one_ifc asK_int asN_int asB_bool asS_str asG_agg asT_tup
section
attribute [local go_sem ↓] lc_len lc_take lc_drop lc_known lc_one lc_rens lc_cells lw_known lw_agg lw_asG scs_known scs_one scs_len
attribute [local go_sem] lt_nat lt_natl lt_lnat lt_ll bool_tf bool_ft
attribute [local go_sem ↓] ecs_len ecs_take ecs_drop ecs_known ecs_one ecs_rens ecs_fit ecs_cells ew_known ew_agg ew_asG ecs_kind ecs_k ecs_l ers_known ers_one ers_len ers_rens ers_fit
attribute [local go_sem ↓] ecs_take_add ecs_drop_add lc_take_add lc_drop_add lenO_de lenO_dv de_known dv_known de_one dv_one de_ren dv_ren
set_option maxRecDepth 100000
set_option maxHeartbeats 1000000
theorem fit_append (g : Nat → Nat) : ∀ {a a' b b' : List V}, fit g a a' → fit g b b' → fit g (a ++ b) (a' ++ b')
  | [], [], _, _, _, h => h
  | _ :: _, _ :: _, _, _, h, k => ⟨h.1, fit_append g h.2 k⟩
  | [], _ :: _, _, _, h, _ => h.elim
  | _ :: _, [], _, _, h, _ => h.elim
theorem fit_unk (g : Nat → Nat) : ∀ (l : List V) {n : Nat}, l.length = n → fit g (List.replicate n .unk) l
  | [], n, h => by simp at h; subst h; exact trivial
  | v :: l, n, h => by
    obtain ⟨m, rfl⟩ : ∃ m, n = m + 1 := ⟨n - 1, by simp at h; omega⟩
    exact ⟨.inl rfl, fit_unk g l (by simpa using h)⟩
theorem fit_unk_app (g : Nat → Nat) {m l l' : List V} {n : Nat} (h : m.length = n) (k : fit g l l') : fit g (List.replicate n .unk ++ l) (m ++ l') := fit_append g (fit_unk g m h) k
theorem drop_unk (n k : Nat) (h : n = k) (l : List V) : (List.replicate n V.unk ++ l).drop k = l := by subst h; simp
noncomputable def pl (Lf Rf us : Nat → Nat) (N : Nat) : Nat → Nat → Nat
  | 0, P => P
  | m + 1, P => pl Lf Rf us N m (((Lf (N - 1 - m) * (us (N - 1 - m) * us (N - 1 - m) % ell) % ell + P) % ell + Rf (N - 1 - m) * (linv (us (N - 1 - m)) * linv (us (N - 1 - m)) % ell) % ell) % ell)
def rv5 (N m i : Nat) (c : Cap) : List V := [.unk, .unk, dv 0 N, .ptr 5 0, .ptr 6 0, .unk, .unk, .sl 7 0 (i + 1) c, .int .i64 i] ++ List.replicate 34 .unk
def st54 (P Q' m : Nat) : List V := ecs P ++ (ecs Q' ++ [.sl 8 0 (2 ^ m) (.grow 26), .sl 9 0 (2 ^ m) (.grow 26)])
def rh5 (us Lf Rf g0 h0 : Nat → Nat) (N P Q' a b m i : Nat) (gi hi : Nat → Nat) (k : Kind) : Heap :=
  [rob us N, some ⟨.ro, ers (2 ^ N) g0⟩, some ⟨.ro, ers (2 ^ N) h0⟩, eb Lf N, eb Rf N, some ⟨.rw, st54 P Q' m⟩, some ⟨.rw, de 3 N :: de 4 N :: (lc a ++ lc b)⟩, some ⟨k, List.replicate (54 * i) .unk ++ st54 P Q' m⟩, some ⟨.ro, ers (2 ^ m) gi⟩, some ⟨.ro, ers (2 ^ m) hi⟩]
theorem fo_eq (us g : Nat → Nat) (N m j : Nat) : fo (fun t => linv (us t)) us N m g j = (g j * linv (us (N - 1 - m)) % ell + g (2 ^ m + j) * us (N - 1 - m) % ell) % ell := by
  unfold fo
  rw [add_l, add_r, Nat.add_comm j]
theorem fo_eq' (us g : Nat → Nat) (N m j : Nat) : fo us (fun t => linv (us t)) N m g j = (g j * us (N - 1 - m) % ell + g (2 ^ m + j) * linv (us (N - 1 - m)) % ell) % ell := by
  unfold fo
  rw [add_l, add_r, Nat.add_comm j]
theorem fit_ecs_app (g : Nat → Nat) (a : Nat) (l l' : List V) : fit g (ecs a ++ l) (ecs a ++ l') = fit g l l' := propext ⟨fun h => by
  have : ∀ (m : List V), fit g (m ++ l) (m ++ l') → fit g l l' := by
    intro m
    induction m with
    | nil => intro h; exact h
    | cons v m ih => intro h; exact ih h.2
  exact this _ h, fun h => fit_append g (ecs_fit g a) h⟩
theorem fit_lc_app (g : Nat → Nat) (a : Nat) (l l' : List V) : fit g (lc a ++ l) (lc a ++ l') = fit g l l' := propext ⟨fun h => by
  have : ∀ (m : List V), fit g (m ++ l) (m ++ l') → fit g l l' := by
    intro m
    induction m with
    | nil => intro h; exact h
    | cons v m ih => intro h; exact ih h.2
  exact this _ h, fun h => fit_append g (lc_fit g a) h⟩
theorem rounds_ref_loop (us Lf Rf g0 h0 : Nat → Nat) (N Q' a b : Nat) (hN : N ≤ 10) (hus : ∀ j, us j < ell) (hL : ∀ j, Lf j < 115792089237316195423570985008687907853269984665640564039457584007913129639936) (hR : ∀ j, Rf j < 115792089237316195423570985008687907853269984665640564039457584007913129639936) (Gf Hf : Nat → Nat) (Pf : Nat) {Q : V → Heap → Prop}
    (hQ : ∀ c, Q (.sl 5 0 (N + 1) c) [rob us N, some ⟨.ro, ers (2 ^ N) g0⟩, some ⟨.ro, ers (2 ^ N) h0⟩, eb Lf N, eb Rf N, some ⟨.ro, List.replicate (54 * N) .unk ++ (ecs Pf ++ (ecs Q' ++ [.sl 6 0 1 (.grow 26), .sl 7 0 1 (.grow 26)]))⟩, some ⟨.ro, ers 1 Gf⟩, some ⟨.ro, ers 1 Hf⟩]) :
    ∀ m i gi hi P k c, i + m = N → (∀ j, gi j < 115792089237316195423570985008687907853269984665640564039457584007913129639936) → (∀ j, hi j < 115792089237316195423570985008687907853269984665640564039457584007913129639936) → P < ell → gl (fun t => linv (us t)) us N m gi = Gf → gl us (fun t => linv (us t)) N m hi = Hf → pl Lf Rf us N m P = Pf → 0 < i → k = .grow ∧ c = .grow 54 →
    Run Tryd.prog G 19 5 Q ([.l v19_10, .b 0, .c (.seq (.reg v19_12) .ret)], ⟨rv5 N m i c, rh5 us Lf Rf g0 h0 N P Q' a b m i gi hi k⟩)
  | 0, i, gi, hi, P, k, c, h, hgi, hhi, hP, eG, eH, eP, _, hk => by
    obtain rfl : i = N := by omega
    have h0' : ((i : Int) < (i : Int)) = False := eq_false (by omega)
    have eG : gi = Gf := eG
    have eH : hi = Hf := eH
    have eP : P = Pf := eP
    subst eG eH eP
    unfold rv5 rh5 st54
    rw [Nat.pow_zero]
    refine run_loop_eq v19_10.eq_1 ?_
    refine run_driveS 80 ?_
    simp only [go_sem, Nat.reduceAdd, Nat.reduceSub, Nat.reduceLeDiff, Nat.reduceMul, Nat.reduceLT, Nat.reduceEqDiff, Int.reduceLT, Int.reduceLE, Int.reduceAdd, Int.reduceSub, Int.reduceMul, Int.reduceToNat, reduceIte, reduceCtorEq, Nat.reduceBEq, v19_5, h0']
    refine run_exit rfl ?_
    refine run_driveS 80 ?_
    simp only [go_sem, Nat.reduceAdd, Nat.reduceSub, Nat.reduceLeDiff, Nat.reduceMul, Nat.reduceLT, Nat.reduceEqDiff, Int.reduceLT, Int.reduceLE, Int.reduceAdd, Int.reduceSub, Int.reduceMul, Int.reduceToNat, reduceIte, reduceCtorEq, Nat.reduceBEq, v19_12]
    refine run_ret_drop Tryd.func19 res19 [0, 1, 2, 3, 4, 7, 8, 9] (.sl 5 0 (i + 1) c) _ rfl (by simp) ?_ ?_ ?_ (hQ c)
    · by_cases hi0 : i = 0
      · subst hi0
        rw [show rob us 0 = none from rfl, show eb Lf 0 = none from rfl, show eb Rf 0 = none from rfl]
        simp only [go_sem, Nat.reduceAdd, Nat.reduceSub, Nat.reduceLeDiff, Nat.reduceMul, Nat.reduceLT, Nat.reduceEqDiff, Int.reduceLT, Int.reduceLE, Int.reduceAdd, Int.reduceSub, Int.reduceMul, Int.reduceToNat, reduceIte, reduceCtorEq, Nat.reduceBEq, hfit, lc_fit, scs_fit, fit, ren, gmap, lw_plain, true_or, or_true, fit_ecs_app, Nat.mul_zero]
      · rw [rob_pos (by omega), eb_pos (by omega), eb_pos (by omega)]
        simp only [go_sem, Nat.reduceAdd, Nat.reduceSub, Nat.reduceLeDiff, Nat.reduceMul, Nat.reduceLT, Nat.reduceEqDiff, Int.reduceLT, Int.reduceLE, Int.reduceAdd, Int.reduceSub, Int.reduceMul, Int.reduceToNat, reduceIte, reduceCtorEq, Nat.reduceBEq, hfit, lc_fit, scs_fit, fit, ren, gmap, lw_plain, true_or, or_true]
        exact fit_unk_app _ (by simp) (by simp only [fit_ecs_app, fit, ren, gmap, or_true, and_self])
    · by_cases hi0 : i = 0
      · subst hi0
        simp [uniq, rob, eb, wrB]
      · rw [rob_pos (by omega), eb_pos (by omega), eb_pos (by omega)]
        simp [uniq, wrB]
    · simp only [go_sem, Nat.reduceAdd, Nat.reduceSub, Nat.reduceLeDiff, Nat.reduceMul, Nat.reduceLT, Nat.reduceEqDiff, Int.reduceLT, Int.reduceLE, Int.reduceAdd, Int.reduceSub, Int.reduceMul, Int.reduceToNat, reduceIte, reduceCtorEq, Nat.reduceBEq, rr19, ren, gmap]
  | m + 1, i, gi, hi, P, k, c, h, hgi, hhi, hP, eG, eH, eP, hi1, hk => by
    have h2 : 2 ^ (m + 1) = 2 * 2 ^ m := by rw [Nat.pow_succ, Nat.mul_comm]
    have hp : 2 ^ m ≤ 2 ^ 10 := Nat.pow_le_pow_right (by decide) (by omega)
    have hp0 : 0 < 2 ^ m := Nat.two_pow_pos m
    have hi' : N - 1 - m = i := by omega
    have fg : ∀ j, fo (fun t => linv (us t)) us N m gi j = (gi j * linv (us i) % ell + gi (2 ^ m + j) * us i % ell) % ell := fun j => by rw [fo_eq, hi']
    have fh : ∀ j, fo us (fun t => linv (us t)) N m hi j = (hi j * us i % ell + hi (2 ^ m + j) * linv (us i) % ell) % ell := fun j => by rw [fo_eq', hi']
    have lt1 : ∀ j, fo (fun t => linv (us t)) us N m gi j < 115792089237316195423570985008687907853269984665640564039457584007913129639936 := fun j => mod_lt _
    have lt2 : ∀ j, fo us (fun t => linv (us t)) N m hi j < 115792089237316195423570985008687907853269984665640564039457584007913129639936 := fun j => mod_lt _
    have ih := fun k c => rounds_ref_loop us Lf Rf g0 h0 N Q' a b hN hus hL hR Gf Hf Pf hQ m (i + 1) (fo (fun t => linv (us t)) us N m gi) (fo us (fun t => linv (us t)) N m hi) (((Lf i * (us i * us i % ell) % ell + P) % ell + Rf i * (linv (us i) * linv (us i) % ell) % ell) % ell) k c (by omega) lt1 lt2 (mod_lt' _) eG eH (by rw [pl, hi'] at eP; exact eP) (by omega)
    have hfold := fun Q => fold_ref (G := G) gi hi hgi hhi P Q' (Lf i) (Rf i) (us i) (2 ^ m) hP (hL i) (hR i) (hus i) (by omega) hp0 (fo (fun t => linv (us t)) us N m gi) (fo us (fun t => linv (us t)) N m hi) (fun j _ => fg j) (fun j _ => fh j) Q
    generalize fo (fun t => linv (us t)) us N m gi = gn at *
    generalize fo us (fun t => linv (us t)) N m hi = hn at *
    generalize ((Lf i * (us i * us i % ell) % ell + P) % ell + Rf i * (linv (us i) * linv (us i) % ell) % ell) % ell = Pn at *
    have h0' : ((i : Int) < (N : Int)) = True := eq_true (by omega)
    have gU := scs_get' N us (i := i) (by omega)
    have gL := ers_get N Lf (i := i) (by omega)
    have gR := ers_get N Rf (i := i) (by omega)
    have hw : IntKind.i64.wrap ((i : Int) + 1) = ((i + 1 : Nat) : Int) := by rw [wrap_i64 (by omega) (by omega)]; omega
    unfold rv5 rh5 st54 at ih ⊢
    rw [rob_pos (by omega), eb_pos (by omega), eb_pos (by omega), de_pos (by omega), de_pos (by omega), dv_pos (by omega)] at *
    rw [h2]
    generalize 2 ^ m = n at *
    refine run_loop_eq v19_10.eq_1 ?_
    refine run_driveS 80 ?_
    simp only [go_sem, Nat.reduceAdd, Nat.reduceSub, Nat.reduceLeDiff, Nat.reduceMul, Nat.reduceLT, Nat.reduceEqDiff, Int.reduceLT, Int.reduceLE, Int.reduceAdd, Int.reduceSub, Int.reduceMul, Int.reduceToNat, reduceIte, reduceCtorEq, Nat.reduceBEq, v19_5, v19_8, h0']
    refine run_drw (by kernel_rfl) ?_
    refine drun_drive 40 (p := (_, _)) ?_
    simp only [go_sem, Nat.reduceAdd, Nat.reduceSub, Nat.reduceLeDiff, Nat.reduceMul, Nat.reduceLT, Nat.reduceEqDiff, Int.reduceLT, Int.reduceLE, Int.reduceAdd, Int.reduceSub, Int.reduceMul, Int.reduceToNat, reduceIte, reduceCtorEq, Nat.reduceBEq, v19_6, h0', gU, gL, gR]
    refine drun_call' ?_
    simp only [go_sem, Nat.reduceAdd, Nat.reduceSub, Nat.reduceLeDiff, Nat.reduceMul, Nat.reduceLT, Nat.reduceEqDiff, Int.reduceLT, Int.reduceLE, Int.reduceAdd, Int.reduceSub, Int.reduceMul, Int.reduceToNat, reduceIte, reduceCtorEq, Nat.reduceBEq, calV]
    refine vcall_at (hfold (fun v k => v = stE Pn Q' (.sl 2 0 n (.grow 26)) (.sl 3 0 n (.grow 26)) ∧ k = [some ⟨.ro, ers (2 * n) gi⟩, some ⟨.ro, ers (2 * n) hi⟩, some ⟨.grow, ers n gn⟩, some ⟨.grow, ers n hn⟩]) ⟨rfl, rfl⟩) [8, 9] (by simp) ?_ ?_ ?_ ?_
    · simp only [go_sem, Nat.reduceAdd, Nat.reduceSub, Nat.reduceLeDiff, Nat.reduceMul, Nat.reduceLT, Nat.reduceEqDiff, Int.reduceLT, Int.reduceLE, Int.reduceAdd, Int.reduceSub, Int.reduceMul, Int.reduceToNat, reduceIte, reduceCtorEq, Nat.reduceBEq, hfit, lc_fit, scs_fit, fit, ren, gmap, lw_plain, true_or, or_true]
    · simp [uniq, wrB]
    · simp only [stE, ren, rens, rens_append, ecs_rens, gmap, ew_plain, lw_plain]
    rintro v h'' ⟨rfl, rfl⟩
    simp only [go_sem, Nat.reduceAdd, Nat.reduceSub, Nat.reduceLeDiff, Nat.reduceMul, Nat.reduceLT, Nat.reduceEqDiff, Int.reduceLT, Int.reduceLE, Int.reduceAdd, Int.reduceSub, Int.reduceMul, Int.reduceToNat, reduceIte, reduceCtorEq, Nat.reduceBEq, stE, rens_append, ren, rens, gmap, puts, wrB, Bool.false_eq_true, if_false, if_true, renB, ers_rens, Option.map_some, Option.map_none]
    refine drun_drive 40 (p := (_, _)) ?_
    simp only [go_sem, Nat.reduceAdd, Nat.reduceSub, Nat.reduceLeDiff, Nat.reduceMul, Nat.reduceLT, Nat.reduceEqDiff, Int.reduceLT, Int.reduceLE, Int.reduceAdd, Int.reduceSub, Int.reduceMul, Int.reduceToNat, reduceIte, reduceCtorEq, Nat.reduceBEq, List.append_assoc]
    refine drun_end ?_
    have a1 : ((i + 1 + 1) * 496 ≤ 140737488355328) = True := eq_true (by omega)
    have a2 : (i + 1 + 1 ≤ 9223372036854775807) = True := eq_true (by omega)
    obtain ⟨rfl, rfl⟩ := hk
    have a3 : (54 * i + 54 = (i + 1) * 54) = True := eq_true (by omega)
    refine run_driveS 80 ?_
    simp only [go_sem, Nat.reduceAdd, Nat.reduceSub, Nat.reduceLeDiff, Nat.reduceMul, Nat.reduceLT, Nat.reduceEqDiff, Int.reduceLT, Int.reduceLE, Int.reduceAdd, Int.reduceSub, Int.reduceMul, Int.reduceToNat, reduceIte, reduceCtorEq, Nat.reduceBEq, v19_7, v19_9, a1, a2, a3, List.length_replicate, hw]
    refine run_rename [0, 1, 2, 3, 4, 5, 6, 13, 10, 11] rfl (by simp) ?_ ?_ ?_ (ih .grow (.grow 54) ⟨rfl, rfl⟩)
    · simp only [go_sem, Nat.reduceAdd, Nat.reduceSub, Nat.reduceLeDiff, Nat.reduceMul, Nat.reduceLT, Nat.reduceEqDiff, Int.reduceLT, Int.reduceLE, Int.reduceAdd, Int.reduceSub, Int.reduceMul, Int.reduceToNat, reduceIte, reduceCtorEq, Nat.reduceBEq, hfit, lc_fit, scs_fit, fit, ren, gmap, lw_plain, true_or, or_true, fit_ecs_app, fit_lc_app]
      refine fit_unk_app _ ?_ (by simp only [fit_ecs_app, fit, ren, gmap, or_true, and_self])
      rw [List.length_append, List.length_replicate]
      show 54 * i + 54 = 54 * (i + 1)
      omega
    · simp [uniq, wrB]
    · simp only [go_sem, Nat.reduceAdd, Nat.reduceSub, Nat.reduceLeDiff, Nat.reduceMul, Nat.reduceLT, Nat.reduceEqDiff, Int.reduceLT, Int.reduceLE, Int.reduceAdd, Int.reduceSub, Int.reduceMul, Int.reduceToNat, reduceIte, reduceCtorEq, Nat.reduceBEq, hfit, lc_fit, scs_fit, fit, ren, gmap, lw_plain, true_or, or_true]
theorem wrB_none : wrB none = false := rfl
theorem wrB_rob (f : Nat → Nat) (n : Nat) : wrB (rob f n) = false := by unfold rob; split <;> rfl
theorem wrB_eb (f : Nat → Nat) (n : Nat) : wrB (eb f n) = false := by unfold eb; split <;> rfl
theorem rounds_ref (us Lf Rf g0 h0 : Nat → Nat) (N P Q' a b : Nat) (hN : N ≤ 10) (hus : ∀ j, us j < ell) (hz : ∀ j, j < N → us j ≠ 0) (hL : ∀ j, Lf j < 115792089237316195423570985008687907853269984665640564039457584007913129639936) (hR : ∀ j, Rf j < 115792089237316195423570985008687907853269984665640564039457584007913129639936) (hg : ∀ j, g0 j < 115792089237316195423570985008687907853269984665640564039457584007913129639936) (hh : ∀ j, h0 j < 115792089237316195423570985008687907853269984665640564039457584007913129639936) (hP : P < ell) (Q : V → Heap → Prop)
    (hQ0 : N = 0 → ∀ c, Q (.sl 5 0 1 c) [none, some ⟨.ro, ers 1 g0⟩, some ⟨.ro, ers 1 h0⟩, none, none, some ⟨.ro, ecs P ++ (ecs Q' ++ [.sl 1 0 1 (.grow 26), .sl 2 0 1 (.grow 26)])⟩])
    (hQ : 0 < N → ∀ c, Q (.sl 5 0 (N + 1) c) [rob us N, some ⟨.ro, ers (2 ^ N) g0⟩, some ⟨.ro, ers (2 ^ N) h0⟩, eb Lf N, eb Rf N, some ⟨.ro, List.replicate (54 * N) .unk ++ (ecs (pl Lf Rf us N N P) ++ (ecs Q' ++ [.sl 6 0 1 (.grow 26), .sl 7 0 1 (.grow 26)]))⟩, some ⟨.ro, ers 1 (gl (fun t => linv (us t)) us N N g0)⟩, some ⟨.ro, ers 1 (gl us (fun t => linv (us t)) N N h0)⟩]) :
    VCall Tryd.prog G 19 [stE P Q' (.sl 1 0 (2 ^ N) (.grow 26)) (.sl 2 0 (2 ^ N) (.grow 26)), arE (de 3 N) (de 4 N) a b, dv 0 N] [rob us N, some ⟨.ro, ers (2 ^ N) g0⟩, some ⟨.ro, ers (2 ^ N) h0⟩, eb Lf N, eb Rf N] Q := by
  have hp0 : 0 < 2 ^ N := Nat.two_pow_pos N
  have hl := ell_lt
  have hfits := fun Q => fits_ref (G := G) P Q' a b (2 ^ N) (2 ^ N) N N N us (fun j => Nat.lt_trans (hus j) hl) Q
  rw [de_pos hp0, de_pos hp0] at hfits
  have fit0 : Fit (2 ^ N) (2 ^ N) N N N N := ⟨rfl, hN, rfl, rfl, rfl, rfl⟩
  have hf0 : VCall Tryd.prog G 12 [stE P Q' (.sl 1 0 (2 ^ N) (.grow 26)) (.sl 2 0 (2 ^ N) (.grow 26)), arE (de 3 N) (de 4 N) a b, dv 0 N] [rob us N, none, none, none, none] fun v k => v = .int .i64 0 ∧ k = [rob us N, none, none, none, none] :=
    hfits _ (fun h => absurd fit0 (h N)) (fun k f ⟨j, hj, e⟩ => by
      have : k = N := f.2.2.2.1.symm
      subst this
      exact absurd e (hz j hj)) (fun k f h => ⟨rfl, rfl⟩)
  by_cases hN0 : N = 0
  · subst hN0
    rw [show rob us 0 = none from rfl, show eb Lf 0 = none from rfl, show eb Rf 0 = none from rfl, Nat.pow_zero, show dv 0 0 = .nils from rfl, show de 3 0 = .nils from rfl, show de 4 0 = .nils from rfl] at *
    refine vcall_body Tryd.func19 nm19 code19 nt19 ?_
    unfold stE arE
    refine run_driveS 80 ?_
    simp only [go_sem, Nat.reduceAdd, Nat.reduceSub, Nat.reduceLeDiff, Nat.reduceMul, Nat.reduceLT, Nat.reduceEqDiff, Int.reduceLT, Int.reduceLE, Int.reduceAdd, Int.reduceSub, Int.reduceMul, Int.reduceToNat, reduceIte, reduceCtorEq, Nat.reduceBEq, v19, v19_0, v19_1]
    refine run_call' rfl ?_
    simp only [go_sem, Nat.reduceAdd, Nat.reduceSub, Nat.reduceLeDiff, Nat.reduceMul, Nat.reduceLT, Nat.reduceEqDiff, Int.reduceLT, Int.reduceLE, Int.reduceAdd, Int.reduceSub, Int.reduceMul, Int.reduceToNat, reduceIte, reduceCtorEq, Nat.reduceBEq, calV]
    refine vcall_at hf0 [0, 1, 2, 3, 4] (by simp) ?_ ?_ ?_ ?_
    · simp only [go_sem, Nat.reduceAdd, Nat.reduceSub, Nat.reduceLeDiff, Nat.reduceMul, Nat.reduceLT, Nat.reduceEqDiff, Int.reduceLT, Int.reduceLE, Int.reduceAdd, Int.reduceSub, Int.reduceMul, Int.reduceToNat, reduceIte, reduceCtorEq, Nat.reduceBEq, hfit, lc_fit, scs_fit, fit, ren, gmap, lw_plain, true_or, or_true]
    · simp [uniq, wrB]
    · simp only [stE_ren, arE_ren, ren, rens, gmap]
      rfl
    rintro v h'' ⟨rfl, rfl⟩
    simp only [go_sem, Nat.reduceAdd, Nat.reduceSub, Nat.reduceLeDiff, Nat.reduceMul, Nat.reduceLT, Nat.reduceEqDiff, Int.reduceLT, Int.reduceLE, Int.reduceAdd, Int.reduceSub, Int.reduceMul, Int.reduceToNat, reduceIte, reduceCtorEq, Nat.reduceBEq, puts, wrB_none, ren, rens, gmap, Bool.false_eq_true, if_false]
    refine run_driveS 80 ?_
    simp only [go_sem, Nat.reduceAdd, Nat.reduceSub, Nat.reduceLeDiff, Nat.reduceMul, Nat.reduceLT, Nat.reduceEqDiff, Int.reduceLT, Int.reduceLE, Int.reduceAdd, Int.reduceSub, Int.reduceMul, Int.reduceToNat, reduceIte, reduceCtorEq, Nat.reduceBEq]
    refine run_cond_f (by rfl) ?_
    refine run_driveS 80 ?_
    simp only [go_sem, Nat.reduceAdd, Nat.reduceSub, Nat.reduceLeDiff, Nat.reduceMul, Nat.reduceLT, Nat.reduceEqDiff, Int.reduceLT, Int.reduceLE, Int.reduceAdd, Int.reduceSub, Int.reduceMul, Int.reduceToNat, reduceIte, reduceCtorEq, Nat.reduceBEq, v19_3, v19_4, v19_11]
    refine run_loop_eq v19_10.eq_1 ?_
    refine run_driveS 80 ?_
    simp only [go_sem, Nat.reduceAdd, Nat.reduceSub, Nat.reduceLeDiff, Nat.reduceMul, Nat.reduceLT, Nat.reduceEqDiff, Int.reduceLT, Int.reduceLE, Int.reduceAdd, Int.reduceSub, Int.reduceMul, Int.reduceToNat, reduceIte, reduceCtorEq, Nat.reduceBEq, v19_5]
    refine run_exit rfl ?_
    refine run_driveS 80 ?_
    simp only [go_sem, Nat.reduceAdd, Nat.reduceSub, Nat.reduceLeDiff, Nat.reduceMul, Nat.reduceLT, Nat.reduceEqDiff, Int.reduceLT, Int.reduceLE, Int.reduceAdd, Int.reduceSub, Int.reduceMul, Int.reduceToNat, reduceIte, reduceCtorEq, Nat.reduceBEq, v19_12]
    refine run_ret_drop Tryd.func19 res19 [0, 1, 2, 3, 4, 7] (.sl 5 0 1 (.exact 1)) _ rfl (by simp) ?_ ?_ ?_ (hQ0 rfl _)
    · simp only [go_sem, Nat.reduceAdd, Nat.reduceSub, Nat.reduceLeDiff, Nat.reduceMul, Nat.reduceLT, Nat.reduceEqDiff, Int.reduceLT, Int.reduceLE, Int.reduceAdd, Int.reduceSub, Int.reduceMul, Int.reduceToNat, reduceIte, reduceCtorEq, Nat.reduceBEq, hfit, lc_fit, scs_fit, fit, ren, gmap, lw_plain, true_or, or_true, fit_ecs_app]
    · simp [uniq, wrB]
    · simp only [go_sem, Nat.reduceAdd, Nat.reduceSub, Nat.reduceLeDiff, Nat.reduceMul, Nat.reduceLT, Nat.reduceEqDiff, Int.reduceLT, Int.reduceLE, Int.reduceAdd, Int.reduceSub, Int.reduceMul, Int.reduceToNat, reduceIte, reduceCtorEq, Nat.reduceBEq, rr19, ren, gmap]
  · obtain ⟨M, rfl⟩ : ∃ M, N = M + 1 := ⟨N - 1, by omega⟩
    have h2 : 2 ^ (M + 1) = 2 * 2 ^ M := by rw [Nat.pow_succ, Nat.mul_comm]
    have hp : 2 ^ M ≤ 2 ^ 10 := Nat.pow_le_pow_right (by decide) (by omega)
    have hpM : 0 < 2 ^ M := Nat.two_pow_pos M
    have hi' : M + 1 - 1 - M = 0 := by omega
    have fg : ∀ j, fo (fun t => linv (us t)) us (M + 1) M g0 j = (g0 j * linv (us 0) % ell + g0 (2 ^ M + j) * us 0 % ell) % ell := fun j => by rw [fo_eq, hi']
    have fh : ∀ j, fo us (fun t => linv (us t)) (M + 1) M h0 j = (h0 j * us 0 % ell + h0 (2 ^ M + j) * linv (us 0) % ell) % ell := fun j => by rw [fo_eq', hi']
    have lt1 : ∀ j, fo (fun t => linv (us t)) us (M + 1) M g0 j < 115792089237316195423570985008687907853269984665640564039457584007913129639936 := fun j => mod_lt _
    have lt2 : ∀ j, fo us (fun t => linv (us t)) (M + 1) M h0 j < 115792089237316195423570985008687907853269984665640564039457584007913129639936 := fun j => mod_lt _
    have ih := fun k c => rounds_ref_loop (G := G) us Lf Rf g0 h0 (M + 1) Q' a b hN hus hL hR _ _ _ (hQ (by omega)) M 1 (fo (fun t => linv (us t)) us (M + 1) M g0) (fo us (fun t => linv (us t)) (M + 1) M h0) (((Lf 0 * (us 0 * us 0 % ell) % ell + P) % ell + Rf 0 * (linv (us 0) * linv (us 0) % ell) % ell) % ell) k c (by omega) lt1 lt2 (mod_lt' _) rfl rfl (by rw [pl, hi']) (by decide)
    have hfold := fun Q => fold_ref (G := G) g0 h0 hg hh P Q' (Lf 0) (Rf 0) (us 0) (2 ^ M) hP (hL 0) (hR 0) (hus 0) (by omega) hpM (fo (fun t => linv (us t)) us (M + 1) M g0) (fo us (fun t => linv (us t)) (M + 1) M h0) (fun j _ => fg j) (fun j _ => fh j) Q
    generalize fo (fun t => linv (us t)) us (M + 1) M g0 = gn at *
    generalize fo us (fun t => linv (us t)) (M + 1) M h0 = hn at *
    generalize ((Lf 0 * (us 0 * us 0 % ell) % ell + P) % ell + Rf 0 * (linv (us 0) * linv (us 0) % ell) % ell) % ell = Pn at *
    have h0' : ((0 : Int) < ((M + 1 : Nat) : Int)) = True := eq_true (by omega)
    have gU := scs_get' (M + 1) us (i := 0) (by omega)
    have gL := ers_get (M + 1) Lf (i := 0) (by omega)
    have gR := ers_get (M + 1) Rf (i := 0) (by omega)
    rw [Nat.zero_mul, List.drop_zero] at gU gL gR
    unfold rv5 rh5 st54 at ih
    have hM : 0 < M + 1 := by omega
    clear hQ hQ0 hfits fit0
    rw [rob_pos hM, eb_pos hM, eb_pos hM, de_pos hM, de_pos hM, dv_pos hM] at ih ⊢
    rw [rob_pos hM, de_pos hM, de_pos hM, dv_pos hM] at hf0
    rw [h2] at ih hf0 ⊢
    generalize 2 ^ M = n at *
    generalize M + 1 = N at *
    obtain ⟨q, hq⟩ : ∃ q, q = 54 * 1 := ⟨_, rfl⟩
    rw [← hq] at ih
    have ih := ih .grow (.grow 54) ⟨rfl, rfl⟩
    refine vcall_body Tryd.func19 nm19 code19 nt19 ?_
    unfold stE arE
    refine run_driveS 80 ?_
    simp only [go_sem, Nat.reduceAdd, Nat.reduceSub, Nat.reduceLeDiff, Nat.reduceMul, Nat.reduceLT, Nat.reduceEqDiff, Int.reduceLT, Int.reduceLE, Int.reduceAdd, Int.reduceSub, Int.reduceMul, Int.reduceToNat, reduceIte, reduceCtorEq, Nat.reduceBEq, v19, v19_0, v19_1]
    refine run_call' rfl ?_
    simp only [go_sem, Nat.reduceAdd, Nat.reduceSub, Nat.reduceLeDiff, Nat.reduceMul, Nat.reduceLT, Nat.reduceEqDiff, Int.reduceLT, Int.reduceLE, Int.reduceAdd, Int.reduceSub, Int.reduceMul, Int.reduceToNat, reduceIte, reduceCtorEq, Nat.reduceBEq, calV]
    refine vcall_at hf0 [0, 1, 2, 3, 4] (by simp) ?_ ?_ ?_ ?_
    · simp only [go_sem, Nat.reduceAdd, Nat.reduceSub, Nat.reduceLeDiff, Nat.reduceMul, Nat.reduceLT, Nat.reduceEqDiff, Int.reduceLT, Int.reduceLE, Int.reduceAdd, Int.reduceSub, Int.reduceMul, Int.reduceToNat, reduceIte, reduceCtorEq, Nat.reduceBEq, hfit, lc_fit, scs_fit, fit, ren, gmap, lw_plain, true_or, or_true]
    · simp [uniq, wrB]
    · simp only [stE_ren, arE_ren, ren, rens, gmap]
      rfl
    rintro v h'' ⟨rfl, rfl⟩
    simp only [go_sem, Nat.reduceAdd, Nat.reduceSub, Nat.reduceLeDiff, Nat.reduceMul, Nat.reduceLT, Nat.reduceEqDiff, Int.reduceLT, Int.reduceLE, Int.reduceAdd, Int.reduceSub, Int.reduceMul, Int.reduceToNat, reduceIte, reduceCtorEq, Nat.reduceBEq, puts, wrB, ren, rens, gmap, Bool.false_eq_true, if_false]
    refine run_driveS 80 ?_
    simp only [go_sem, Nat.reduceAdd, Nat.reduceSub, Nat.reduceLeDiff, Nat.reduceMul, Nat.reduceLT, Nat.reduceEqDiff, Int.reduceLT, Int.reduceLE, Int.reduceAdd, Int.reduceSub, Int.reduceMul, Int.reduceToNat, reduceIte, reduceCtorEq, Nat.reduceBEq]
    refine run_cond_f (by rfl) ?_
    refine run_driveS 80 ?_
    simp only [go_sem, Nat.reduceAdd, Nat.reduceSub, Nat.reduceLeDiff, Nat.reduceMul, Nat.reduceLT, Nat.reduceEqDiff, Int.reduceLT, Int.reduceLE, Int.reduceAdd, Int.reduceSub, Int.reduceMul, Int.reduceToNat, reduceIte, reduceCtorEq, Nat.reduceBEq, v19_3, v19_4, v19_11]
    refine run_loop_eq v19_10.eq_1 ?_
    refine run_driveS 80 ?_
    simp only [go_sem, Nat.reduceAdd, Nat.reduceSub, Nat.reduceLeDiff, Nat.reduceMul, Nat.reduceLT, Nat.reduceEqDiff, Int.reduceLT, Int.reduceLE, Int.reduceAdd, Int.reduceSub, Int.reduceMul, Int.reduceToNat, reduceIte, reduceCtorEq, Nat.reduceBEq, v19_5, v19_8, h0']
    refine run_drw (by kernel_rfl) ?_
    refine drun_drive 40 (p := (_, _)) ?_
    simp only [go_sem, Nat.reduceAdd, Nat.reduceSub, Nat.reduceLeDiff, Nat.reduceMul, Nat.reduceLT, Nat.reduceEqDiff, Int.reduceLT, Int.reduceLE, Int.reduceAdd, Int.reduceSub, Int.reduceMul, Int.reduceToNat, reduceIte, reduceCtorEq, Nat.reduceBEq, v19_6, h0', gU, gL, gR]
    refine drun_call' ?_
    simp only [go_sem, Nat.reduceAdd, Nat.reduceSub, Nat.reduceLeDiff, Nat.reduceMul, Nat.reduceLT, Nat.reduceEqDiff, Int.reduceLT, Int.reduceLE, Int.reduceAdd, Int.reduceSub, Int.reduceMul, Int.reduceToNat, reduceIte, reduceCtorEq, Nat.reduceBEq, calV]
    refine vcall_at (hfold (fun v k => v = stE Pn Q' (.sl 2 0 n (.grow 26)) (.sl 3 0 n (.grow 26)) ∧ k = [some ⟨.ro, ers (2 * n) g0⟩, some ⟨.ro, ers (2 * n) h0⟩, some ⟨.grow, ers n gn⟩, some ⟨.grow, ers n hn⟩]) ⟨rfl, rfl⟩) [1, 2] (by simp) ?_ ?_ ?_ ?_
    · simp only [go_sem, Nat.reduceAdd, Nat.reduceSub, Nat.reduceLeDiff, Nat.reduceMul, Nat.reduceLT, Nat.reduceEqDiff, Int.reduceLT, Int.reduceLE, Int.reduceAdd, Int.reduceSub, Int.reduceMul, Int.reduceToNat, reduceIte, reduceCtorEq, Nat.reduceBEq, hfit, lc_fit, scs_fit, fit, ren, gmap, lw_plain, true_or, or_true]
    · simp [uniq, wrB]
    · simp only [stE, ren, rens, rens_append, ecs_rens, gmap, ew_plain, lw_plain]
    rintro v h'' ⟨rfl, rfl⟩
    simp only [go_sem, Nat.reduceAdd, Nat.reduceSub, Nat.reduceLeDiff, Nat.reduceMul, Nat.reduceLT, Nat.reduceEqDiff, Int.reduceLT, Int.reduceLE, Int.reduceAdd, Int.reduceSub, Int.reduceMul, Int.reduceToNat, reduceIte, reduceCtorEq, Nat.reduceBEq, stE, rens_append, ren, rens, gmap, puts, wrB, Bool.false_eq_true, if_false, if_true, renB, ers_rens, Option.map_some, Option.map_none]
    refine drun_drive 40 (p := (_, _)) ?_
    simp only [go_sem, Nat.reduceAdd, Nat.reduceSub, Nat.reduceLeDiff, Nat.reduceMul, Nat.reduceLT, Nat.reduceEqDiff, Int.reduceLT, Int.reduceLE, Int.reduceAdd, Int.reduceSub, Int.reduceMul, Int.reduceToNat, reduceIte, reduceCtorEq, Nat.reduceBEq, List.append_assoc]
    refine drun_end ?_
    refine run_driveS 80 ?_
    simp only [go_sem, Nat.reduceAdd, Nat.reduceSub, Nat.reduceLeDiff, Nat.reduceMul, Nat.reduceLT, Nat.reduceEqDiff, Int.reduceLT, Int.reduceLE, Int.reduceAdd, Int.reduceSub, Int.reduceMul, Int.reduceToNat, reduceIte, reduceCtorEq, Nat.reduceBEq, v19_7, v19_9]
    refine run_rename [0, 1, 2, 3, 4, 5, 6, 11, 8, 9] rfl (by simp) ?_ ?_ ?_ ih
    · simp only [go_sem, Nat.reduceAdd, Nat.reduceSub, Nat.reduceLeDiff, Nat.reduceMul, Nat.reduceLT, Nat.reduceEqDiff, Int.reduceLT, Int.reduceLE, Int.reduceAdd, Int.reduceSub, Int.reduceMul, Int.reduceToNat, reduceIte, reduceCtorEq, Nat.reduceBEq, hfit, lc_fit, scs_fit, fit, ren, gmap, lw_plain, true_or, or_true, fit_ecs_app, fit_lc_app]
      refine fit_unk_app (n := q) _ (m := ecs P ++ (ecs Q' ++ [.sl 1 0 (2 * n) (.grow 26), .sl 2 0 (2 * n) (.grow 26)])) ?_ ?_
      · rw [hq]; rfl
      · simp only [fit_ecs_app, fit, ren, gmap, or_true, and_self]
    · simp [uniq, wrB]
    · simp only [go_sem, Nat.reduceAdd, Nat.reduceSub, Nat.reduceLeDiff, Nat.reduceMul, Nat.reduceLT, Nat.reduceEqDiff, Int.reduceLT, Int.reduceLE, Int.reduceAdd, Int.reduceSub, Int.reduceMul, Int.reduceToNat, reduceIte, reduceCtorEq, Nat.reduceBEq, hfit, lc_fit, scs_fit, fit, ren, gmap, lw_plain, true_or, or_true]
end
section
attribute [local go_sem ↓] lc_len lc_take lc_drop lc_known lc_one lc_rens lc_cells lw_known lw_agg lw_asG scs_known scs_one scs_len
attribute [local go_sem] lt_nat lt_natl lt_lnat lt_ll bool_tf bool_ft
attribute [local go_sem ↓] ecs_len ecs_take ecs_drop ecs_known ecs_one ecs_rens ecs_fit ecs_cells ew_known ew_agg ew_asG ecs_kind ecs_k ecs_l ers_known ers_one ers_len ers_rens ers_fit
attribute [local go_sem ↓] ecs_take_add ecs_drop_add lc_take_add lc_drop_add lenO_de lenO_dv de_known dv_known de_one dv_one de_ren dv_ren
set_option maxRecDepth 100000
set_option maxHeartbeats 1000000
noncomputable def lf (us Lf Rf g0 h0 : Nat → Nat) (N P Q' a b : Nat) : Nat :=
  (pl Lf Rf us N N P + ((gl (fun t => linv (us t)) us N N g0 0 * a % ell + gl us (fun t => linv (us t)) N N h0 0 * b % ell) % ell + Q' * (a * b % ell) % ell) % ell * (ell - 1)) % ell
theorem pl_lt (Lf Rf us : Nat → Nat) (N : Nat) : ∀ m P, P < ell → pl Lf Rf us N m P < ell
  | 0, _, h => h
  | m + 1, _, _ => pl_lt Lf Rf us N m _ (mod_lt' _)
theorem gl_lt (x y : Nat → Nat) (n : Nat) : ∀ k g, (∀ j, g j < 115792089237316195423570985008687907853269984665640564039457584007913129639936) → ∀ j, gl x y n k g j < 115792089237316195423570985008687907853269984665640564039457584007913129639936
  | 0, _, h => h
  | k + 1, _, _ => gl_lt x y n k _ fun _ => mod_lt _
theorem left_ref (us Lf Rf g0 h0 : Nat → Nat) (N P Q' a b : Nat) (hN : N ≤ 10) (hus : ∀ j, us j < ell) (hz : ∀ j, j < N → us j ≠ 0) (hL : ∀ j, Lf j < 115792089237316195423570985008687907853269984665640564039457584007913129639936) (hR : ∀ j, Rf j < 115792089237316195423570985008687907853269984665640564039457584007913129639936) (hg : ∀ j, g0 j < 115792089237316195423570985008687907853269984665640564039457584007913129639936) (hh : ∀ j, h0 j < 115792089237316195423570985008687907853269984665640564039457584007913129639936) (hP : P < ell) (hQ' : Q' < 115792089237316195423570985008687907853269984665640564039457584007913129639936) (ha : a < 115792089237316195423570985008687907853269984665640564039457584007913129639936) (hb : b < 115792089237316195423570985008687907853269984665640564039457584007913129639936) (Q : V → Heap → Prop)
    (hQ : Q (ew (lf us Lf Rf g0 h0 N P Q' a b)) [rob us N, some ⟨.ro, ers (2 ^ N) g0⟩, some ⟨.ro, ers (2 ^ N) h0⟩, eb Lf N, eb Rf N]) :
    VCall Tryd.prog G 18 [stE P Q' (.sl 1 0 (2 ^ N) (.grow 26)) (.sl 2 0 (2 ^ N) (.grow 26)), arE (de 3 N) (de 4 N) a b, dv 0 N] [rob us N, some ⟨.ro, ers (2 ^ N) g0⟩, some ⟨.ro, ers (2 ^ N) h0⟩, eb Lf N, eb Rf N] Q := by
  have hPf := pl_lt Lf Rf us N N P hP
  have hGf := gl_lt (fun t => linv (us t)) us N N g0 hg
  have hHf := gl_lt us (fun t => linv (us t)) N N h0 hh
  have hr := fun Q => rounds_ref (G := G) us Lf Rf g0 h0 N P Q' a b hN hus hz hL hR hg hh hP Q
  unfold lf at hQ
  by_cases hN0 : N = 0
  · subst hN0
    rw [show rob us 0 = none from rfl, show eb Lf 0 = none from rfl, show eb Rf 0 = none from rfl, Nat.pow_zero, show dv 0 0 = .nils from rfl, show de 3 0 = .nils from rfl, show de 4 0 = .nils from rfl] at *
    have hr1 : VCall Tryd.prog G 19 [stE P Q' (.sl 1 0 1 (.grow 26)) (.sl 2 0 1 (.grow 26)), arE .nils .nils a b, .nils] [none, some ⟨.ro, ers 1 g0⟩, some ⟨.ro, ers 1 h0⟩, none, none] fun v k => ∃ c, v = .sl 5 0 1 c ∧ k = [none, some ⟨.ro, ers 1 g0⟩, some ⟨.ro, ers 1 h0⟩, none, none, some ⟨.ro, ecs P ++ (ecs Q' ++ [.sl 1 0 1 (.grow 26), .sl 2 0 1 (.grow 26)])⟩] :=
      hr _ (fun _ c => ⟨c, rfl, rfl⟩) (fun h => absurd h (by decide))
    have e1 : gl (fun t => linv (us t)) us 0 0 g0 0 = g0 0 := rfl
    have e2 : gl us (fun t => linv (us t)) 0 0 h0 0 = h0 0 := rfl
    have e3 : pl Lf Rf us 0 0 P = P := rfl
    rw [e1, e2, e3] at hQ
    have g1 := ers_get 1 g0 (i := 0) (by omega)
    have g2 := ers_get 1 h0 (i := 0) (by omega)
    rw [Nat.zero_mul, List.drop_zero] at g1 g2
    refine vcall_body Tryd.func18 nm18 code18 nt18 ?_
    unfold stE arE
    refine run_driveS 80 ?_
    simp only [go_sem, Nat.reduceAdd, Nat.reduceSub, Nat.reduceLeDiff, Nat.reduceMul, Nat.reduceLT, Nat.reduceEqDiff, Int.reduceLT, Int.reduceLE, Int.reduceAdd, Int.reduceSub, Int.reduceMul, Int.reduceToNat, reduceIte, reduceCtorEq, Nat.reduceBEq, v18, v18_0, v18_1]
    refine run_call' rfl ?_
    simp only [go_sem, Nat.reduceAdd, Nat.reduceSub, Nat.reduceLeDiff, Nat.reduceMul, Nat.reduceLT, Nat.reduceEqDiff, Int.reduceLT, Int.reduceLE, Int.reduceAdd, Int.reduceSub, Int.reduceMul, Int.reduceToNat, reduceIte, reduceCtorEq, Nat.reduceBEq, calV]
    refine vcall_at hr1 [0, 1, 2, 3, 4] (by simp) ?_ ?_ ?_ ?_
    · simp only [go_sem, Nat.reduceAdd, Nat.reduceSub, Nat.reduceLeDiff, Nat.reduceMul, Nat.reduceLT, Nat.reduceEqDiff, Int.reduceLT, Int.reduceLE, Int.reduceAdd, Int.reduceSub, Int.reduceMul, Int.reduceToNat, reduceIte, reduceCtorEq, Nat.reduceBEq, hfit, lc_fit, scs_fit, fit, ren, gmap, lw_plain, true_or, or_true]
    · simp [uniq, wrB]
    · simp only [stE_ren, arE_ren, ren, rens, gmap]
      rfl
    rintro v h'' ⟨c, rfl, rfl⟩
    simp only [go_sem, Nat.reduceAdd, Nat.reduceSub, Nat.reduceLeDiff, Nat.reduceMul, Nat.reduceLT, Nat.reduceEqDiff, Int.reduceLT, Int.reduceLE, Int.reduceAdd, Int.reduceSub, Int.reduceMul, Int.reduceToNat, reduceIte, reduceCtorEq, Nat.reduceBEq, puts, wrB, ren, rens, rens_append, ecs_rens, gmap, Bool.false_eq_true, if_false, renB, Option.map_some, Option.map_none]
    refine run_driveS 80 ?_
    simp only [go_sem, Nat.reduceAdd, Nat.reduceSub, Nat.reduceLeDiff, Nat.reduceMul, Nat.reduceLT, Nat.reduceEqDiff, Int.reduceLT, Int.reduceLE, Int.reduceAdd, Int.reduceSub, Int.reduceMul, Int.reduceToNat, reduceIte, reduceCtorEq, Nat.reduceBEq, v18_2]
    refine run_drw (by kernel_rfl) ?_
    refine drun_drive 40 (p := (_, _)) ?_
    simp only [go_sem, Nat.reduceAdd, Nat.reduceSub, Nat.reduceLeDiff, Nat.reduceMul, Nat.reduceLT, Nat.reduceEqDiff, Int.reduceLT, Int.reduceLE, Int.reduceAdd, Int.reduceSub, Int.reduceMul, Int.reduceToNat, reduceIte, reduceCtorEq, Nat.reduceBEq, v18_3, g1, g2]
    refine drun_call' ?_
    simp only [go_sem, Nat.reduceAdd, Nat.reduceSub, Nat.reduceLeDiff, Nat.reduceMul, Nat.reduceLT, Nat.reduceEqDiff, Int.reduceLT, Int.reduceLE, Int.reduceAdd, Int.reduceSub, Int.reduceMul, Int.reduceToNat, reduceIte, reduceCtorEq, Nat.reduceBEq, calV]
    refine e_times _ _ (hg 0) ha ?_
    refine drun_drive 40 (p := (_, _)) ?_
    simp only [go_sem, Nat.reduceAdd, Nat.reduceSub, Nat.reduceLeDiff, Nat.reduceMul, Nat.reduceLT, Nat.reduceEqDiff, Int.reduceLT, Int.reduceLE, Int.reduceAdd, Int.reduceSub, Int.reduceMul, Int.reduceToNat, reduceIte, reduceCtorEq, Nat.reduceBEq]
    refine drun_call' ?_
    simp only [go_sem, Nat.reduceAdd, Nat.reduceSub, Nat.reduceLeDiff, Nat.reduceMul, Nat.reduceLT, Nat.reduceEqDiff, Int.reduceLT, Int.reduceLE, Int.reduceAdd, Int.reduceSub, Int.reduceMul, Int.reduceToNat, reduceIte, reduceCtorEq, Nat.reduceBEq, calV]
    refine e_times _ _ (hh 0) hb ?_
    refine drun_drive 40 (p := (_, _)) ?_
    simp only [go_sem, Nat.reduceAdd, Nat.reduceSub, Nat.reduceLeDiff, Nat.reduceMul, Nat.reduceLT, Nat.reduceEqDiff, Int.reduceLT, Int.reduceLE, Int.reduceAdd, Int.reduceSub, Int.reduceMul, Int.reduceToNat, reduceIte, reduceCtorEq, Nat.reduceBEq]
    refine drun_call' ?_
    simp only [go_sem, Nat.reduceAdd, Nat.reduceSub, Nat.reduceLeDiff, Nat.reduceMul, Nat.reduceLT, Nat.reduceEqDiff, Int.reduceLT, Int.reduceLE, Int.reduceAdd, Int.reduceSub, Int.reduceMul, Int.reduceToNat, reduceIte, reduceCtorEq, Nat.reduceBEq, calV]
    refine e_add _ _ (mod_lt' _) (mod_lt' _) ?_
    refine drun_drive 40 (p := (_, _)) ?_
    simp only [go_sem, Nat.reduceAdd, Nat.reduceSub, Nat.reduceLeDiff, Nat.reduceMul, Nat.reduceLT, Nat.reduceEqDiff, Int.reduceLT, Int.reduceLE, Int.reduceAdd, Int.reduceSub, Int.reduceMul, Int.reduceToNat, reduceIte, reduceCtorEq, Nat.reduceBEq]
    refine drun_call' ?_
    simp only [go_sem, Nat.reduceAdd, Nat.reduceSub, Nat.reduceLeDiff, Nat.reduceMul, Nat.reduceLT, Nat.reduceEqDiff, Int.reduceLT, Int.reduceLE, Int.reduceAdd, Int.reduceSub, Int.reduceMul, Int.reduceToNat, reduceIte, reduceCtorEq, Nat.reduceBEq, calV]
    refine ref_mul _ _ ha hb ?_
    refine drun_drive 40 (p := (_, _)) ?_
    simp only [go_sem, Nat.reduceAdd, Nat.reduceSub, Nat.reduceLeDiff, Nat.reduceMul, Nat.reduceLT, Nat.reduceEqDiff, Int.reduceLT, Int.reduceLE, Int.reduceAdd, Int.reduceSub, Int.reduceMul, Int.reduceToNat, reduceIte, reduceCtorEq, Nat.reduceBEq]
    refine drun_call' ?_
    simp only [go_sem, Nat.reduceAdd, Nat.reduceSub, Nat.reduceLeDiff, Nat.reduceMul, Nat.reduceLT, Nat.reduceEqDiff, Int.reduceLT, Int.reduceLE, Int.reduceAdd, Int.reduceSub, Int.reduceMul, Int.reduceToNat, reduceIte, reduceCtorEq, Nat.reduceBEq, calV]
    refine e_times _ _ hQ' (mod_lt _) ?_
    refine drun_drive 40 (p := (_, _)) ?_
    simp only [go_sem, Nat.reduceAdd, Nat.reduceSub, Nat.reduceLeDiff, Nat.reduceMul, Nat.reduceLT, Nat.reduceEqDiff, Int.reduceLT, Int.reduceLE, Int.reduceAdd, Int.reduceSub, Int.reduceMul, Int.reduceToNat, reduceIte, reduceCtorEq, Nat.reduceBEq]
    refine drun_call' ?_
    simp only [go_sem, Nat.reduceAdd, Nat.reduceSub, Nat.reduceLeDiff, Nat.reduceMul, Nat.reduceLT, Nat.reduceEqDiff, Int.reduceLT, Int.reduceLE, Int.reduceAdd, Int.reduceSub, Int.reduceMul, Int.reduceToNat, reduceIte, reduceCtorEq, Nat.reduceBEq, calV]
    refine e_add _ _ (mod_lt' _) (mod_lt' _) ?_
    refine drun_drive 40 (p := (_, _)) ?_
    simp only [go_sem, Nat.reduceAdd, Nat.reduceSub, Nat.reduceLeDiff, Nat.reduceMul, Nat.reduceLT, Nat.reduceEqDiff, Int.reduceLT, Int.reduceLE, Int.reduceAdd, Int.reduceSub, Int.reduceMul, Int.reduceToNat, reduceIte, reduceCtorEq, Nat.reduceBEq]
    refine drun_end ?_
    refine run_driveS 80 ?_
    simp only [go_sem, Nat.reduceAdd, Nat.reduceSub, Nat.reduceLeDiff, Nat.reduceMul, Nat.reduceLT, Nat.reduceEqDiff, Int.reduceLT, Int.reduceLE, Int.reduceAdd, Int.reduceSub, Int.reduceMul, Int.reduceToNat, reduceIte, reduceCtorEq, Nat.reduceBEq, v18_4]
    refine run_call' rfl ?_
    simp only [go_sem, Nat.reduceAdd, Nat.reduceSub, Nat.reduceLeDiff, Nat.reduceMul, Nat.reduceLT, Nat.reduceEqDiff, Int.reduceLT, Int.reduceLE, Int.reduceAdd, Int.reduceSub, Int.reduceMul, Int.reduceToNat, reduceIte, reduceCtorEq, Nat.reduceBEq, calV]
    refine e_sub _ _ hP (mod_lt' _) ?_
    refine run_driveS 80 ?_
    simp only [go_sem, Nat.reduceAdd, Nat.reduceSub, Nat.reduceLeDiff, Nat.reduceMul, Nat.reduceLT, Nat.reduceEqDiff, Int.reduceLT, Int.reduceLE, Int.reduceAdd, Int.reduceSub, Int.reduceMul, Int.reduceToNat, reduceIte, reduceCtorEq, Nat.reduceBEq]
    refine run_ret_drop Tryd.func18 res18 [0, 1, 2, 3, 4] (ew _) _ rfl (by simp) ?_ ?_ ?_ hQ
    · simp only [go_sem, Nat.reduceAdd, Nat.reduceSub, Nat.reduceLeDiff, Nat.reduceMul, Nat.reduceLT, Nat.reduceEqDiff, Int.reduceLT, Int.reduceLE, Int.reduceAdd, Int.reduceSub, Int.reduceMul, Int.reduceToNat, reduceIte, reduceCtorEq, Nat.reduceBEq, hfit, lc_fit, scs_fit, fit, ren, gmap, lw_plain, true_or, or_true]
    · simp [uniq, wrB]
    · simp only [go_sem, Nat.reduceAdd, Nat.reduceSub, Nat.reduceLeDiff, Nat.reduceMul, Nat.reduceLT, Nat.reduceEqDiff, Int.reduceLT, Int.reduceLE, Int.reduceAdd, Int.reduceSub, Int.reduceMul, Int.reduceToNat, reduceIte, reduceCtorEq, Nat.reduceBEq, rr18, ew_plain]
  · have hN1 : 0 < N := by omega
    have hp0 : 0 < 2 ^ N := Nat.two_pow_pos N
    have hr1 : VCall Tryd.prog G 19 [stE P Q' (.sl 1 0 (2 ^ N) (.grow 26)) (.sl 2 0 (2 ^ N) (.grow 26)), arE (de 3 N) (de 4 N) a b, dv 0 N] [rob us N, some ⟨.ro, ers (2 ^ N) g0⟩, some ⟨.ro, ers (2 ^ N) h0⟩, eb Lf N, eb Rf N] fun v k => ∃ c, v = .sl 5 0 (N + 1) c ∧ k = [rob us N, some ⟨.ro, ers (2 ^ N) g0⟩, some ⟨.ro, ers (2 ^ N) h0⟩, eb Lf N, eb Rf N, some ⟨.ro, List.replicate (54 * N) .unk ++ (ecs (pl Lf Rf us N N P) ++ (ecs Q' ++ [.sl 6 0 1 (.grow 26), .sl 7 0 1 (.grow 26)]))⟩, some ⟨.ro, ers 1 (gl (fun t => linv (us t)) us N N g0)⟩, some ⟨.ro, ers 1 (gl us (fun t => linv (us t)) N N h0)⟩] :=
      hr _ (fun h => absurd h hN0) (fun _ c => ⟨c, rfl, rfl⟩)
    clear hr
    generalize gl (fun t => linv (us t)) us N N g0 = gF at *
    generalize gl us (fun t => linv (us t)) N N h0 = hF at *
    generalize pl Lf Rf us N N P = PF at *
    generalize 2 ^ N = n at *
    rw [rob_pos hN1, eb_pos hN1, eb_pos hN1, de_pos hN1, de_pos hN1, dv_pos hN1] at *
    have g1 := ers_get 1 gF (i := 0) (by omega)
    have g2 := ers_get 1 hF (i := 0) (by omega)
    rw [Nat.zero_mul, List.drop_zero] at g1 g2
    have hw : IntKind.i64.wrap (((N + 1 : Nat) : Int) - 1) = (N : Int) := by rw [wrap_i64 (by omega) (by omega)]; omega
    have hlt : ((N : Int) < ((N + 1 : Nat) : Int)) = True := eq_true (by omega)
    have hd := drop_unk (54 * N) (N * 54) (by omega)
    have hru : ∀ g, rens g (List.replicate (54 * N) V.unk) = List.replicate (54 * N) V.unk := fun g => by
      generalize 54 * N = q
      induction q with
      | zero => rfl
      | succ q ih => rw [List.replicate_succ, rens, ih]; rfl
    refine vcall_body Tryd.func18 nm18 code18 nt18 ?_
    unfold stE arE
    refine run_driveS 80 ?_
    simp only [go_sem, Nat.reduceAdd, Nat.reduceSub, Nat.reduceLeDiff, Nat.reduceMul, Nat.reduceLT, Nat.reduceEqDiff, Int.reduceLT, Int.reduceLE, Int.reduceAdd, Int.reduceSub, Int.reduceMul, Int.reduceToNat, reduceIte, reduceCtorEq, Nat.reduceBEq, v18, v18_0, v18_1]
    refine run_call' rfl ?_
    simp only [go_sem, Nat.reduceAdd, Nat.reduceSub, Nat.reduceLeDiff, Nat.reduceMul, Nat.reduceLT, Nat.reduceEqDiff, Int.reduceLT, Int.reduceLE, Int.reduceAdd, Int.reduceSub, Int.reduceMul, Int.reduceToNat, reduceIte, reduceCtorEq, Nat.reduceBEq, calV]
    refine vcall_at hr1 [0, 1, 2, 3, 4] (by simp) ?_ ?_ ?_ ?_
    · simp only [go_sem, Nat.reduceAdd, Nat.reduceSub, Nat.reduceLeDiff, Nat.reduceMul, Nat.reduceLT, Nat.reduceEqDiff, Int.reduceLT, Int.reduceLE, Int.reduceAdd, Int.reduceSub, Int.reduceMul, Int.reduceToNat, reduceIte, reduceCtorEq, Nat.reduceBEq, hfit, lc_fit, scs_fit, fit, ren, gmap, lw_plain, true_or, or_true]
    · simp [uniq, wrB]
    · simp only [stE_ren, arE_ren, ren, rens, gmap]
      rfl
    rintro v h'' ⟨c, rfl, rfl⟩
    simp only [go_sem, Nat.reduceAdd, Nat.reduceSub, Nat.reduceLeDiff, Nat.reduceMul, Nat.reduceLT, Nat.reduceEqDiff, Int.reduceLT, Int.reduceLE, Int.reduceAdd, Int.reduceSub, Int.reduceMul, Int.reduceToNat, reduceIte, reduceCtorEq, Nat.reduceBEq, puts, wrB, ren, rens, rens_append, ecs_rens, ers_rens, hru, gmap, Bool.false_eq_true, if_false, renB, Option.map_some, Option.map_none]
    refine run_driveS 80 ?_
    simp only [go_sem, Nat.reduceAdd, Nat.reduceSub, Nat.reduceLeDiff, Nat.reduceMul, Nat.reduceLT, Nat.reduceEqDiff, Int.reduceLT, Int.reduceLE, Int.reduceAdd, Int.reduceSub, Int.reduceMul, Int.reduceToNat, reduceIte, reduceCtorEq, Nat.reduceBEq, v18_2, hw, hlt, hd]
    refine run_drw (by kernel_rfl) ?_
    refine drun_drive 40 (p := (_, _)) ?_
    simp only [go_sem, Nat.reduceAdd, Nat.reduceSub, Nat.reduceLeDiff, Nat.reduceMul, Nat.reduceLT, Nat.reduceEqDiff, Int.reduceLT, Int.reduceLE, Int.reduceAdd, Int.reduceSub, Int.reduceMul, Int.reduceToNat, reduceIte, reduceCtorEq, Nat.reduceBEq, v18_3, g1, g2]
    refine drun_call' ?_
    simp only [go_sem, Nat.reduceAdd, Nat.reduceSub, Nat.reduceLeDiff, Nat.reduceMul, Nat.reduceLT, Nat.reduceEqDiff, Int.reduceLT, Int.reduceLE, Int.reduceAdd, Int.reduceSub, Int.reduceMul, Int.reduceToNat, reduceIte, reduceCtorEq, Nat.reduceBEq, calV]
    refine e_times _ _ (hGf 0) ha ?_
    refine drun_drive 40 (p := (_, _)) ?_
    simp only [go_sem, Nat.reduceAdd, Nat.reduceSub, Nat.reduceLeDiff, Nat.reduceMul, Nat.reduceLT, Nat.reduceEqDiff, Int.reduceLT, Int.reduceLE, Int.reduceAdd, Int.reduceSub, Int.reduceMul, Int.reduceToNat, reduceIte, reduceCtorEq, Nat.reduceBEq]
    refine drun_call' ?_
    simp only [go_sem, Nat.reduceAdd, Nat.reduceSub, Nat.reduceLeDiff, Nat.reduceMul, Nat.reduceLT, Nat.reduceEqDiff, Int.reduceLT, Int.reduceLE, Int.reduceAdd, Int.reduceSub, Int.reduceMul, Int.reduceToNat, reduceIte, reduceCtorEq, Nat.reduceBEq, calV]
    refine e_times _ _ (hHf 0) hb ?_
    refine drun_drive 40 (p := (_, _)) ?_
    simp only [go_sem, Nat.reduceAdd, Nat.reduceSub, Nat.reduceLeDiff, Nat.reduceMul, Nat.reduceLT, Nat.reduceEqDiff, Int.reduceLT, Int.reduceLE, Int.reduceAdd, Int.reduceSub, Int.reduceMul, Int.reduceToNat, reduceIte, reduceCtorEq, Nat.reduceBEq]
    refine drun_call' ?_
    simp only [go_sem, Nat.reduceAdd, Nat.reduceSub, Nat.reduceLeDiff, Nat.reduceMul, Nat.reduceLT, Nat.reduceEqDiff, Int.reduceLT, Int.reduceLE, Int.reduceAdd, Int.reduceSub, Int.reduceMul, Int.reduceToNat, reduceIte, reduceCtorEq, Nat.reduceBEq, calV]
    refine e_add _ _ (mod_lt' _) (mod_lt' _) ?_
    refine drun_drive 40 (p := (_, _)) ?_
    simp only [go_sem, Nat.reduceAdd, Nat.reduceSub, Nat.reduceLeDiff, Nat.reduceMul, Nat.reduceLT, Nat.reduceEqDiff, Int.reduceLT, Int.reduceLE, Int.reduceAdd, Int.reduceSub, Int.reduceMul, Int.reduceToNat, reduceIte, reduceCtorEq, Nat.reduceBEq]
    refine drun_call' ?_
    simp only [go_sem, Nat.reduceAdd, Nat.reduceSub, Nat.reduceLeDiff, Nat.reduceMul, Nat.reduceLT, Nat.reduceEqDiff, Int.reduceLT, Int.reduceLE, Int.reduceAdd, Int.reduceSub, Int.reduceMul, Int.reduceToNat, reduceIte, reduceCtorEq, Nat.reduceBEq, calV]
    refine ref_mul _ _ ha hb ?_
    refine drun_drive 40 (p := (_, _)) ?_
    simp only [go_sem, Nat.reduceAdd, Nat.reduceSub, Nat.reduceLeDiff, Nat.reduceMul, Nat.reduceLT, Nat.reduceEqDiff, Int.reduceLT, Int.reduceLE, Int.reduceAdd, Int.reduceSub, Int.reduceMul, Int.reduceToNat, reduceIte, reduceCtorEq, Nat.reduceBEq]
    refine drun_call' ?_
    simp only [go_sem, Nat.reduceAdd, Nat.reduceSub, Nat.reduceLeDiff, Nat.reduceMul, Nat.reduceLT, Nat.reduceEqDiff, Int.reduceLT, Int.reduceLE, Int.reduceAdd, Int.reduceSub, Int.reduceMul, Int.reduceToNat, reduceIte, reduceCtorEq, Nat.reduceBEq, calV]
    refine e_times _ _ hQ' (mod_lt _) ?_
    refine drun_drive 40 (p := (_, _)) ?_
    simp only [go_sem, Nat.reduceAdd, Nat.reduceSub, Nat.reduceLeDiff, Nat.reduceMul, Nat.reduceLT, Nat.reduceEqDiff, Int.reduceLT, Int.reduceLE, Int.reduceAdd, Int.reduceSub, Int.reduceMul, Int.reduceToNat, reduceIte, reduceCtorEq, Nat.reduceBEq]
    refine drun_call' ?_
    simp only [go_sem, Nat.reduceAdd, Nat.reduceSub, Nat.reduceLeDiff, Nat.reduceMul, Nat.reduceLT, Nat.reduceEqDiff, Int.reduceLT, Int.reduceLE, Int.reduceAdd, Int.reduceSub, Int.reduceMul, Int.reduceToNat, reduceIte, reduceCtorEq, Nat.reduceBEq, calV]
    refine e_add _ _ (mod_lt' _) (mod_lt' _) ?_
    refine drun_drive 40 (p := (_, _)) ?_
    simp only [go_sem, Nat.reduceAdd, Nat.reduceSub, Nat.reduceLeDiff, Nat.reduceMul, Nat.reduceLT, Nat.reduceEqDiff, Int.reduceLT, Int.reduceLE, Int.reduceAdd, Int.reduceSub, Int.reduceMul, Int.reduceToNat, reduceIte, reduceCtorEq, Nat.reduceBEq]
    refine drun_end ?_
    refine run_driveS 80 ?_
    simp only [go_sem, Nat.reduceAdd, Nat.reduceSub, Nat.reduceLeDiff, Nat.reduceMul, Nat.reduceLT, Nat.reduceEqDiff, Int.reduceLT, Int.reduceLE, Int.reduceAdd, Int.reduceSub, Int.reduceMul, Int.reduceToNat, reduceIte, reduceCtorEq, Nat.reduceBEq, v18_4]
    refine run_call' rfl ?_
    simp only [go_sem, Nat.reduceAdd, Nat.reduceSub, Nat.reduceLeDiff, Nat.reduceMul, Nat.reduceLT, Nat.reduceEqDiff, Int.reduceLT, Int.reduceLE, Int.reduceAdd, Int.reduceSub, Int.reduceMul, Int.reduceToNat, reduceIte, reduceCtorEq, Nat.reduceBEq, calV]
    refine e_sub _ _ hPf (mod_lt' _) ?_
    refine run_driveS 80 ?_
    simp only [go_sem, Nat.reduceAdd, Nat.reduceSub, Nat.reduceLeDiff, Nat.reduceMul, Nat.reduceLT, Nat.reduceEqDiff, Int.reduceLT, Int.reduceLE, Int.reduceAdd, Int.reduceSub, Int.reduceMul, Int.reduceToNat, reduceIte, reduceCtorEq, Nat.reduceBEq]
    refine run_ret_drop Tryd.func18 res18 [0, 1, 2, 3, 4] (ew _) _ rfl (by simp) ?_ ?_ ?_ hQ
    · simp only [go_sem, Nat.reduceAdd, Nat.reduceSub, Nat.reduceLeDiff, Nat.reduceMul, Nat.reduceLT, Nat.reduceEqDiff, Int.reduceLT, Int.reduceLE, Int.reduceAdd, Int.reduceSub, Int.reduceMul, Int.reduceToNat, reduceIte, reduceCtorEq, Nat.reduceBEq, hfit, lc_fit, scs_fit, fit, ren, gmap, lw_plain, true_or, or_true]
    · simp [uniq, wrB]
    · simp only [go_sem, Nat.reduceAdd, Nat.reduceSub, Nat.reduceLeDiff, Nat.reduceMul, Nat.reduceLT, Nat.reduceEqDiff, Int.reduceLT, Int.reduceLE, Int.reduceAdd, Int.reduceSub, Int.reduceMul, Int.reduceToNat, reduceIte, reduceCtorEq, Nat.reduceBEq, rr18, ew_plain]
end
section
attribute [local go_sem ↓] lc_len lc_take lc_drop lc_known lc_one lc_rens lc_cells lw_known lw_agg lw_asG scs_known scs_one scs_len
attribute [local go_sem ↓] lc_take_add lc_drop_add lct8 lcne
attribute [local go_sem] bool_tf bool_ft
set_option maxRecDepth 100000
set_option maxHeartbeats 1000000
def prc (k1 p1 k2 p2 : Nat → Nat) (j : Nat) : List V := lc (k1 j) ++ (lc (p1 j) ++ (lc (k2 j) ++ lc (p2 j)))
def prs (m : Nat) (k1 p1 k2 p2 : Nat → Nat) : List V := row m (prc k1 p1 k2 p2)
theorem prc_len (k1 p1 k2 p2 : Nat → Nat) (j : Nat) : (prc k1 p1 k2 p2 j).length = 16 := rfl
theorem prs_len (m : Nat) (k1 p1 k2 p2 : Nat → Nat) : (prs m k1 p1 k2 p2).length = m * 16 := row_len (prc_len k1 p1 k2 p2) m
theorem prs_rens (m : Nat) (k1 p1 k2 p2 g : Nat → Nat) : rens g (prs m k1 p1 k2 p2) = prs m k1 p1 k2 p2 := row_rens (fun j => by simp only [prc, rens_append, lc_rens]) m
theorem prs_fit (m : Nat) (k1 p1 k2 p2 g : Nat → Nat) : fit g (prs m k1 p1 k2 p2) (prs m k1 p1 k2 p2) := fit_same (prs_rens m k1 p1 k2 p2 g)
theorem prs_known (m : Nat) (k1 p1 k2 p2 : Nat → Nat) : (prs m k1 p1 k2 p2).all V.known = true := row_all (fun _ => rfl) m
theorem prs_snoc (m : Nat) (k1 p1 k2 p2 : Nat → Nat) {a b c d : Nat} (h1 : k1 m = a) (h2 : p1 m = b) (h3 : k2 m = c) (h4 : p2 m = d) : prs m k1 p1 k2 p2 ++ (lc a ++ (lc b ++ (lc c ++ lc d))) = prs (m + 1) k1 p1 k2 p2 := by subst h1 h2 h3 h4; rfl
theorem prs_take (m : Nat) (k1 p1 k2 p2 : Nat → Nat) {n : Nat} (h : n = m * 16) : (prs m k1 p1 k2 p2).take n = prs m k1 p1 k2 p2 := List.take_of_length_le (by rw [prs_len]; omega)
attribute [local go_sem ↓] prs_len prs_known prs_rens prs_fit
def tv1 (N n i : Nat) (cu : Cap) (oc : Cap) : List V := [.unk, .unk, .sl 0 0 N cu, .ptr 5 0, .ptr 6 0, .unk, .nils, .int .i64 0, .unk, .unk, .unk, .sl 8 0 n (.exact n), .ptr 9 0, .ptr 10 0, .sl 11 0 (2 * (1 + i)) oc] ++ List.replicate 37 .unk ++ [.sl 7 0 n (.exact n), .int .i64 n, .int .i64 i] ++ List.replicate 67 .unk
def th1 (U Gb Hb Lb Rb : Option Blk) (P Q' a b n i : Nat) (gs hs ls rs : V) (w is : Nat → Nat) (na nb : Nat) (k1 p1 k2 p2 : Nat → Nat) (k : Kind) : Heap :=
  [U, Gb, Hb, Lb, Rb, some ⟨.rw, lc P ++ (lc Q' ++ [gs, hs])⟩, some ⟨.rw, ls :: rs :: (lc a ++ lc b)⟩, some ⟨.ro, scs n w⟩, some ⟨.ro, scs n is⟩, some ⟨.rw, lc na⟩, some ⟨.rw, lc nb⟩, some ⟨k, prs (1 + i) k1 p1 k2 p2⟩]
theorem terms_loop1 (hG : G 0 = tbl) (us g h L R : Nat → Nat) (hg : ∀ j, g j < 115792089237316195423570985008687907853269984665640564039457584007913129639936) (N n P Q' a b na nb : Nat) (ru rg rh rl rr : List V) (hru : ∀ f, rens f ru = ru) (hrg : ∀ f, rens f rg = rg) (hrh : ∀ f, rens f rh = rh) (hrl : ∀ f, rens f rl = rl) (hrr : ∀ f, rens f rr = rr)
    (hn : n < 1000000) (w is : Nat → Nat) (hw : ∀ j, w j < 115792089237316195423570985008687907853269984665640564039457584007913129639936) (his : ∀ j, is j < 115792089237316195423570985008687907853269984665640564039457584007913129639936) (hna : na < 115792089237316195423570985008687907853269984665640564039457584007913129639936) (hnb : nb < 115792089237316195423570985008687907853269984665640564039457584007913129639936) (cu cg ch cl cr : Cap) (k1 p1 k2 p2 : Nat → Nat)
    (e1 : ∀ i, i < n → k1 (1 + i) = na * w i % ell) (e2 : ∀ i, i < n → p1 (1 + i) = g i) (e3 : ∀ i, i < n → k2 (1 + i) = nb * is i % ell) (e4 : ∀ i, i < n → p2 (1 + i) = h i) {Q : V → Heap → Prop} {K : List TI}
    (hK : ∀ k oc, (k = .rw ∧ oc = .exact 2 ∧ n = 0 ∨ k = .grow ∧ oc = .grow 8) → Run Tryd.prog G 9 5 Q (K, ⟨tv1 N n n cu oc, th1 (some ⟨.ro, scs N us ++ ru⟩) (some ⟨.ro, scs n g ++ rg⟩) (some ⟨.ro, scs n h ++ rh⟩) (some ⟨.ro, scs N L ++ rl⟩) (some ⟨.ro, scs N R ++ rr⟩) P Q' a b n n (.sl 1 0 n cg) (.sl 2 0 n ch) (.sl 3 0 N cl) (.sl 4 0 N cr) w is na nb k1 p1 k2 p2 k⟩)) :
    ∀ m i k oc, i + m = n → (k = .rw ∧ oc = .exact 2 ∧ i = 0 ∨ k = .grow ∧ oc = .grow 8) → Run Tryd.prog G 9 5 Q (.l v9_14 :: .b 0 :: K, ⟨tv1 N n i cu oc, th1 (some ⟨.ro, scs N us ++ ru⟩) (some ⟨.ro, scs n g ++ rg⟩) (some ⟨.ro, scs n h ++ rh⟩) (some ⟨.ro, scs N L ++ rl⟩) (some ⟨.ro, scs N R ++ rr⟩) P Q' a b n i (.sl 1 0 n cg) (.sl 2 0 n ch) (.sl 3 0 N cl) (.sl 4 0 N cr) w is na nb k1 p1 k2 p2 k⟩)
  | 0, i, k, oc, hi, hk => by
    obtain rfl : i = n := by omega
    have fU : ∀ f, fit f (scs N us ++ ru) (scs N us ++ ru) := fun f => fit_same (by rw [rens_append, scs_rens, hru])
    have fG : ∀ f, fit f (scs i g ++ rg) (scs i g ++ rg) := fun f => fit_same (by rw [rens_append, scs_rens, hrg])
    have fH : ∀ f, fit f (scs i h ++ rh) (scs i h ++ rh) := fun f => fit_same (by rw [rens_append, scs_rens, hrh])
    have fL : ∀ f, fit f (scs N L ++ rl) (scs N L ++ rl) := fun f => fit_same (by rw [rens_append, scs_rens, hrl])
    have fR : ∀ f, fit f (scs N R ++ rr) (scs N R ++ rr) := fun f => fit_same (by rw [rens_append, scs_rens, hrr])
    have fS : ∀ f, (∀ j, j < 12 → f j = j) → fit f (lc P ++ (lc Q' ++ [.sl 1 0 i cg, .sl 2 0 i ch])) (lc P ++ (lc Q' ++ [.sl 1 0 i cg, .sl 2 0 i ch])) := fun f hf => fit_same (by simp only [rens_append, lc_rens, rens, ren, hf 1 (by decide), hf 2 (by decide)])
    have fX : ∀ f, (∀ j, j < 12 → f j = j) → fit f (V.sl 3 0 N cl :: V.sl 4 0 N cr :: (lc a ++ lc b)) (V.sl 3 0 N cl :: V.sl 4 0 N cr :: (lc a ++ lc b)) := fun f hf => fit_same (by simp only [rens_append, lc_rens, rens, ren, hf 3 (by decide), hf 4 (by decide)])
    have h0 : ((i : Int) < (i : Int)) = False := eq_false (by omega)
    have hK := hK k oc hk
    unfold tv1 th1 at *
    refine run_loop_eq v9_14.eq_1 ?_
    refine run_driveS 80 ?_
    simp only [go_sem, Nat.reduceAdd, Nat.reduceSub, Nat.reduceLeDiff, Nat.reduceMul, Nat.reduceLT, Nat.reduceEqDiff, Int.reduceLT, Int.reduceLE, Int.reduceAdd, Int.reduceSub, Int.reduceMul, Int.reduceToNat, reduceIte, reduceCtorEq, Nat.reduceBEq, v9_9, h0]
    refine run_exit rfl ?_
    refine run_rename [0, 1, 2, 3, 4, 5, 6, 7, 8, 9, 10, 11] rfl (by simp) ?_ ?_ ?_ hK
    · have hgm : ∀ j, j < 12 → gmap [0, 1, 2, 3, 4, 5, 6, 7, 8, 9, 10, 11] 12 j = j := by decide
      have fX : ∀ f, fit f (lc a ++ lc b) (lc a ++ lc b) := fun f => fit_same (by rw [rens_append, lc_rens, lc_rens])
      simp only [go_sem, Nat.reduceAdd, Nat.reduceSub, Nat.reduceLeDiff, Nat.reduceMul, Nat.reduceLT, Nat.reduceEqDiff, Int.reduceLT, Int.reduceLE, Int.reduceAdd, Int.reduceSub, Int.reduceMul, Int.reduceToNat, reduceIte, reduceCtorEq, Nat.reduceBEq, hfit, lc_fit, scs_fit, fit, ren, gmap, lw_plain, true_or, or_true, fU, fG, fH, fL, fR, fS _ hgm, fX]
    · rcases hk with ⟨rfl, _, _⟩ | ⟨rfl, _⟩ <;> simp [uniq, wrB]
    · simp only [go_sem, Nat.reduceAdd, Nat.reduceSub, Nat.reduceLeDiff, Nat.reduceMul, Nat.reduceLT, Nat.reduceEqDiff, Int.reduceLT, Int.reduceLE, Int.reduceAdd, Int.reduceSub, Int.reduceMul, Int.reduceToNat, reduceIte, reduceCtorEq, Nat.reduceBEq, hfit, lc_fit, scs_fit, fit, ren, gmap, lw_plain, true_or, or_true]
  | m + 1, i, k, oc, hi, hk => by
    have ih := fun k oc => terms_loop1 hG us g h L R hg N n P Q' a b na nb ru rg rh rl rr hru hrg hrh hrl hrr hn w is hw his hna hnb cu cg ch cl cr k1 p1 k2 p2 e1 e2 e3 e4 hK m (i + 1) k oc (by omega)
    have fU : ∀ f, fit f (scs N us ++ ru) (scs N us ++ ru) := fun f => fit_same (by rw [rens_append, scs_rens, hru])
    have fG : ∀ f, fit f (scs n g ++ rg) (scs n g ++ rg) := fun f => fit_same (by rw [rens_append, scs_rens, hrg])
    have fH : ∀ f, fit f (scs n h ++ rh) (scs n h ++ rh) := fun f => fit_same (by rw [rens_append, scs_rens, hrh])
    have fL : ∀ f, fit f (scs N L ++ rl) (scs N L ++ rl) := fun f => fit_same (by rw [rens_append, scs_rens, hrl])
    have fR : ∀ f, fit f (scs N R ++ rr) (scs N R ++ rr) := fun f => fit_same (by rw [rens_append, scs_rens, hrr])
    have h0 : ((i : Int) < (n : Int)) = True := eq_true (by omega)
    have gw := scs_get' n w (i := i) (by omega)
    have gi := scs_get' n is (i := i) (by omega)
    have gg := scs_get n g rg (i := i) (by omega)
    have gh := scs_get n h rh (i := i) (by omega)
    have hwi : IntKind.i64.wrap ((i : Int) + 1) = ((i + 1 : Nat) : Int) := by rw [wrap_i64 (by omega) (by omega)]; omega
    have sn := prs_snoc (1 + i) k1 p1 k2 p2 (e1 i (by omega)) (e2 i (by omega)) (e3 i (by omega)) (e4 i (by omega))
    have a1 : ((2 * (1 + i) + 2) * 64 ≤ 140737488355328) = True := eq_true (by omega)
    have a2 : (2 * (1 + i) + 2 ≤ 9223372036854775807) = True := eq_true (by omega)
    have a3 : ((1 + i) * 16 = 2 * (1 + i) * 8) = True := eq_true (by omega)
    unfold tv1 th1 at ih ⊢
    refine run_loop_eq v9_14.eq_1 ?_
    refine run_driveS 80 ?_
    simp only [go_sem, Nat.reduceAdd, Nat.reduceSub, Nat.reduceLeDiff, Nat.reduceMul, Nat.reduceLT, Nat.reduceEqDiff, Int.reduceLT, Int.reduceLE, Int.reduceAdd, Int.reduceSub, Int.reduceMul, Int.reduceToNat, reduceIte, reduceCtorEq, Nat.reduceBEq, v9_9, v9_12, v9_10, h0, gw]
    refine run_drw (by kernel_rfl) ?_
    refine drun_drive 40 (p := (_, _)) ?_
    simp only [go_sem, Nat.reduceAdd, Nat.reduceSub, Nat.reduceLeDiff, Nat.reduceMul, Nat.reduceLT, Nat.reduceEqDiff, Int.reduceLT, Int.reduceLE, Int.reduceAdd, Int.reduceSub, Int.reduceMul, Int.reduceToNat, reduceIte, reduceCtorEq, Nat.reduceBEq, v9_11, h0, gg, gi, gh]
    refine drun_call' ?_
    simp only [go_sem, Nat.reduceAdd, Nat.reduceSub, Nat.reduceLeDiff, Nat.reduceMul, Nat.reduceLT, Nat.reduceEqDiff, Int.reduceLT, Int.reduceLE, Int.reduceAdd, Int.reduceSub, Int.reduceMul, Int.reduceToNat, reduceIte, reduceCtorEq, Nat.reduceBEq, calV]
    refine mul' hG _ _ hna (hw i) ?_
    refine drun_drive 40 (p := (_, _)) ?_
    simp only [go_sem, Nat.reduceAdd, Nat.reduceSub, Nat.reduceLeDiff, Nat.reduceMul, Nat.reduceLT, Nat.reduceEqDiff, Int.reduceLT, Int.reduceLE, Int.reduceAdd, Int.reduceSub, Int.reduceMul, Int.reduceToNat, reduceIte, reduceCtorEq, Nat.reduceBEq]
    refine drun_call' ?_
    simp only [go_sem, Nat.reduceAdd, Nat.reduceSub, Nat.reduceLeDiff, Nat.reduceMul, Nat.reduceLT, Nat.reduceEqDiff, Int.reduceLT, Int.reduceLE, Int.reduceAdd, Int.reduceSub, Int.reduceMul, Int.reduceToNat, reduceIte, reduceCtorEq, Nat.reduceBEq, calV]
    refine mul' hG _ _ hnb (his i) ?_
    have e5 : 2 * (1 + (i + 1)) = 2 * (1 + i) + 2 := by omega
    rw [e5, show 1 + (i + 1) = 1 + i + 1 from rfl] at ih
    rcases hk with ⟨rfl, rfl, hi0⟩ | ⟨rfl, rfl⟩
    · have a4 : (2 * (1 + i) + 2 ≤ 2) = False := eq_false (by omega)
      have tk := prs_take (1 + i) k1 p1 k2 p2 (n := 2 * (1 + i) * 8) (by omega)
      refine drun_drive 40 (p := (_, _)) ?_
      simp only [go_sem, Nat.reduceAdd, Nat.reduceSub, Nat.reduceLeDiff, Nat.reduceMul, Nat.reduceLT, Nat.reduceEqDiff, Int.reduceLT, Int.reduceLE, Int.reduceAdd, Int.reduceSub, Int.reduceMul, Int.reduceToNat, reduceIte, reduceCtorEq, Nat.reduceBEq, a1, a2, a3, a4, tk, sn, List.append_assoc]
      refine drun_end ?_
      refine run_driveS 80 ?_
      simp only [go_sem, Nat.reduceAdd, Nat.reduceSub, Nat.reduceLeDiff, Nat.reduceMul, Nat.reduceLT, Nat.reduceEqDiff, Int.reduceLT, Int.reduceLE, Int.reduceAdd, Int.reduceSub, Int.reduceMul, Int.reduceToNat, reduceIte, reduceCtorEq, Nat.reduceBEq, v9_13, hwi]
      refine run_rename [0, 1, 2, 3, 4, 5, 6, 7, 8, 9, 10, 14] rfl (by simp) ?_ ?_ ?_ (ih .grow (.grow 8) (.inr ⟨rfl, rfl⟩))
      · have hgm : ∀ j, j < 12 → gmap [0, 1, 2, 3, 4, 5, 6, 7, 8, 9, 10, 14] 15 j = (if j = 11 then 14 else j) := by decide
        have fS : ∀ f, f 1 = 1 → f 2 = 2 → fit f (lc P ++ (lc Q' ++ [.sl 1 0 n cg, .sl 2 0 n ch])) (lc P ++ (lc Q' ++ [.sl 1 0 n cg, .sl 2 0 n ch])) := fun f h1 h2 => fit_same (by simp only [rens_append, lc_rens, rens, ren, h1, h2])
        have fX : ∀ f, fit f (lc a ++ lc b) (lc a ++ lc b) := fun f => fit_same (by rw [rens_append, lc_rens, lc_rens])
        simp only [go_sem, Nat.reduceAdd, Nat.reduceSub, Nat.reduceLeDiff, Nat.reduceMul, Nat.reduceLT, Nat.reduceEqDiff, Int.reduceLT, Int.reduceLE, Int.reduceAdd, Int.reduceSub, Int.reduceMul, Int.reduceToNat, reduceIte, reduceCtorEq, Nat.reduceBEq, hfit, lc_fit, scs_fit, fit, ren, gmap, lw_plain, true_or, or_true, fU, fG, fH, fL, fR, fS _ (hgm 1 (by decide)) (hgm 2 (by decide)), fX]
      · simp [uniq, wrB]
      · simp only [go_sem, Nat.reduceAdd, Nat.reduceSub, Nat.reduceLeDiff, Nat.reduceMul, Nat.reduceLT, Nat.reduceEqDiff, Int.reduceLT, Int.reduceLE, Int.reduceAdd, Int.reduceSub, Int.reduceMul, Int.reduceToNat, reduceIte, reduceCtorEq, Nat.reduceBEq, hfit, lc_fit, scs_fit, fit, ren, gmap, lw_plain, true_or, or_true]
    · refine drun_drive 40 (p := (_, _)) ?_
      simp only [go_sem, Nat.reduceAdd, Nat.reduceSub, Nat.reduceLeDiff, Nat.reduceMul, Nat.reduceLT, Nat.reduceEqDiff, Int.reduceLT, Int.reduceLE, Int.reduceAdd, Int.reduceSub, Int.reduceMul, Int.reduceToNat, reduceIte, reduceCtorEq, Nat.reduceBEq, a1, a2, a3, sn, List.append_assoc]
      refine drun_end ?_
      refine run_driveS 80 ?_
      simp only [go_sem, Nat.reduceAdd, Nat.reduceSub, Nat.reduceLeDiff, Nat.reduceMul, Nat.reduceLT, Nat.reduceEqDiff, Int.reduceLT, Int.reduceLE, Int.reduceAdd, Int.reduceSub, Int.reduceMul, Int.reduceToNat, reduceIte, reduceCtorEq, Nat.reduceBEq, v9_13, hwi]
      refine run_rename [0, 1, 2, 3, 4, 5, 6, 7, 8, 9, 10, 14] rfl (by simp) ?_ ?_ ?_ (ih .grow (.grow 8) (.inr ⟨rfl, rfl⟩))
      · have hgm : ∀ j, j < 12 → gmap [0, 1, 2, 3, 4, 5, 6, 7, 8, 9, 10, 14] 15 j = (if j = 11 then 14 else j) := by decide
        have fS : ∀ f, f 1 = 1 → f 2 = 2 → fit f (lc P ++ (lc Q' ++ [.sl 1 0 n cg, .sl 2 0 n ch])) (lc P ++ (lc Q' ++ [.sl 1 0 n cg, .sl 2 0 n ch])) := fun f h1 h2 => fit_same (by simp only [rens_append, lc_rens, rens, ren, h1, h2])
        have fX : ∀ f, fit f (lc a ++ lc b) (lc a ++ lc b) := fun f => fit_same (by rw [rens_append, lc_rens, lc_rens])
        simp only [go_sem, Nat.reduceAdd, Nat.reduceSub, Nat.reduceLeDiff, Nat.reduceMul, Nat.reduceLT, Nat.reduceEqDiff, Int.reduceLT, Int.reduceLE, Int.reduceAdd, Int.reduceSub, Int.reduceMul, Int.reduceToNat, reduceIte, reduceCtorEq, Nat.reduceBEq, hfit, lc_fit, scs_fit, fit, ren, gmap, lw_plain, true_or, or_true, fU, fG, fH, fL, fR, fS _ (hgm 1 (by decide)) (hgm 2 (by decide)), fX]
      · simp [uniq, wrB]
      · simp only [go_sem, Nat.reduceAdd, Nat.reduceSub, Nat.reduceLeDiff, Nat.reduceMul, Nat.reduceLT, Nat.reduceEqDiff, Int.reduceLT, Int.reduceLE, Int.reduceAdd, Int.reduceSub, Int.reduceMul, Int.reduceToNat, reduceIte, reduceCtorEq, Nat.reduceBEq, hfit, lc_fit, scs_fit, fit, ren, gmap, lw_plain, true_or, or_true]
end
section
attribute [local go_sem ↓] lc_len lc_take lc_drop lc_known lc_one lc_rens lc_cells lw_known lw_agg lw_asG scs_known scs_one scs_len
attribute [local go_sem ↓] lc_take_add lc_drop_add lct8 lcne
attribute [local go_sem] bool_tf bool_ft
set_option maxRecDepth 100000
set_option maxHeartbeats 1000000
attribute [local go_sem ↓] prs_len prs_known prs_rens prs_fit
def tv2 (N : Nat) (i c : Nat) (cu : Cap) : List V := [.unk, .unk, .sl 0 0 N cu, .ptr 5 0, .ptr 6 0, .unk, .nils, .int .i64 0, .unk, .unk, .unk, .unk, .unk, .unk, .sl 11 0 (2 * (c + i)) (.grow 8), .unk, .unk, .sl 12 0 N (.exact N)] ++ List.replicate 68 .unk ++ [.sl 0 0 N cu, .int .i64 N, .int .i64 i] ++ List.replicate 33 .unk
def th2 (U Gb Hb Lb Rb : Option Blk) (P Q' a b : Nat) (gs hs ls rs : V) (N : Nat) (us : Nat → Nat) (k1 p1 k2 p2 : Nat → Nat) (m : Nat) : Heap :=
  [U, Gb, Hb, Lb, Rb, some ⟨.rw, lc P ++ (lc Q' ++ [gs, hs])⟩, some ⟨.rw, ls :: rs :: (lc a ++ lc b)⟩, none, none, none, none, some ⟨.grow, prs m k1 p1 k2 p2⟩, some ⟨.ro, scs N us⟩]
theorem terms_loop2 (hG : G 0 = tbl) (us bk g h L R : Nat → Nat) (hus : ∀ j, us j < 115792089237316195423570985008687907853269984665640564039457584007913129639936) (hbk : ∀ j, bk j < 115792089237316195423570985008687907853269984665640564039457584007913129639936) (N n P Q' a b c : Nat) (ru rg rh rl rr : List V) (hru : ∀ f, rens f ru = ru) (hrg : ∀ f, rens f rg = rg) (hrh : ∀ f, rens f rh = rh) (hrl : ∀ f, rens f rl = rl) (hrr : ∀ f, rens f rr = rr)
    (hN : N ≤ 10) (hc : c < 1000000) (cu cg ch cl cr : Cap) (k1 p1 k2 p2 : Nat → Nat)
    (e1 : ∀ i, i < N → k1 (c + i) = us i * us i % ell) (e2 : ∀ i, i < N → p1 (c + i) = L i) (e3 : ∀ i, i < N → k2 (c + i) = bk i * bk i % ell) (e4 : ∀ i, i < N → p2 (c + i) = R i) {Q : V → Heap → Prop} {K : List TI}
    (hK : Run Tryd.prog G 9 5 Q (K, ⟨tv2 N N c cu, th2 (some ⟨.ro, scs N us ++ ru⟩) (some ⟨.ro, scs n g ++ rg⟩) (some ⟨.ro, scs n h ++ rh⟩) (some ⟨.ro, scs N L ++ rl⟩) (some ⟨.ro, scs N R ++ rr⟩) P Q' a b (.sl 1 0 n cg) (.sl 2 0 n ch) (.sl 3 0 N cl) (.sl 4 0 N cr) N bk k1 p1 k2 p2 (c + N)⟩)) :
    ∀ m i, i + m = N → Run Tryd.prog G 9 5 Q (.l v9_23 :: .b 2 :: K, ⟨tv2 N i c cu, th2 (some ⟨.ro, scs N us ++ ru⟩) (some ⟨.ro, scs n g ++ rg⟩) (some ⟨.ro, scs n h ++ rh⟩) (some ⟨.ro, scs N L ++ rl⟩) (some ⟨.ro, scs N R ++ rr⟩) P Q' a b (.sl 1 0 n cg) (.sl 2 0 n ch) (.sl 3 0 N cl) (.sl 4 0 N cr) N bk k1 p1 k2 p2 (c + i)⟩)
  | 0, i, hi => by
    obtain rfl : i = N := by omega
    have fU : ∀ f, fit f (scs i us ++ ru) (scs i us ++ ru) := fun f => fit_same (by rw [rens_append, scs_rens, hru])
    have fG : ∀ f, fit f (scs n g ++ rg) (scs n g ++ rg) := fun f => fit_same (by rw [rens_append, scs_rens, hrg])
    have fH : ∀ f, fit f (scs n h ++ rh) (scs n h ++ rh) := fun f => fit_same (by rw [rens_append, scs_rens, hrh])
    have fL : ∀ f, fit f (scs i L ++ rl) (scs i L ++ rl) := fun f => fit_same (by rw [rens_append, scs_rens, hrl])
    have fR : ∀ f, fit f (scs i R ++ rr) (scs i R ++ rr) := fun f => fit_same (by rw [rens_append, scs_rens, hrr])
    have fS : ∀ f, f 1 = 1 → f 2 = 2 → fit f (lc P ++ (lc Q' ++ [.sl 1 0 n cg, .sl 2 0 n ch])) (lc P ++ (lc Q' ++ [.sl 1 0 n cg, .sl 2 0 n ch])) := fun f h1 h2 => fit_same (by simp only [rens_append, lc_rens, rens, ren, h1, h2])
    have fX : ∀ f, fit f (lc a ++ lc b) (lc a ++ lc b) := fun f => fit_same (by rw [rens_append, lc_rens, lc_rens])
    have hgm : ∀ j, j < 13 → gmap [0, 1, 2, 3, 4, 5, 6, 7, 8, 9, 10, 11, 12] 13 j = j := by decide
    have h0 : ((i : Int) < (i : Int)) = False := eq_false (by omega)
    unfold tv2 th2 at *
    refine run_loop_eq v9_23.eq_1 ?_
    refine run_driveS 80 ?_
    simp only [go_sem, Nat.reduceAdd, Nat.reduceSub, Nat.reduceLeDiff, Nat.reduceMul, Nat.reduceLT, Nat.reduceEqDiff, Int.reduceLT, Int.reduceLE, Int.reduceAdd, Int.reduceSub, Int.reduceMul, Int.reduceToNat, reduceIte, reduceCtorEq, Nat.reduceBEq, v9_18, h0]
    refine run_exit rfl ?_
    refine run_rename [0, 1, 2, 3, 4, 5, 6, 7, 8, 9, 10, 11, 12] rfl (by simp) ?_ ?_ ?_ hK
    · simp only [go_sem, Nat.reduceAdd, Nat.reduceSub, Nat.reduceLeDiff, Nat.reduceMul, Nat.reduceLT, Nat.reduceEqDiff, Int.reduceLT, Int.reduceLE, Int.reduceAdd, Int.reduceSub, Int.reduceMul, Int.reduceToNat, reduceIte, reduceCtorEq, Nat.reduceBEq, hfit, lc_fit, scs_fit, fit, ren, gmap, lw_plain, true_or, or_true, fU, fG, fH, fL, fR, fS _ (hgm 1 (by decide)) (hgm 2 (by decide)), fX]
    · simp [uniq, wrB]
    · simp only [go_sem, Nat.reduceAdd, Nat.reduceSub, Nat.reduceLeDiff, Nat.reduceMul, Nat.reduceLT, Nat.reduceEqDiff, Int.reduceLT, Int.reduceLE, Int.reduceAdd, Int.reduceSub, Int.reduceMul, Int.reduceToNat, reduceIte, reduceCtorEq, Nat.reduceBEq, hfit, lc_fit, scs_fit, fit, ren, gmap, lw_plain, true_or, or_true]
  | m + 1, i, hi => by
    have ih := terms_loop2 hG us bk g h L R hus hbk N n P Q' a b c ru rg rh rl rr hru hrg hrh hrl hrr hN hc cu cg ch cl cr k1 p1 k2 p2 e1 e2 e3 e4 hK m (i + 1) (by omega)
    have fU : ∀ f, fit f (scs N us ++ ru) (scs N us ++ ru) := fun f => fit_same (by rw [rens_append, scs_rens, hru])
    have fG : ∀ f, fit f (scs n g ++ rg) (scs n g ++ rg) := fun f => fit_same (by rw [rens_append, scs_rens, hrg])
    have fH : ∀ f, fit f (scs n h ++ rh) (scs n h ++ rh) := fun f => fit_same (by rw [rens_append, scs_rens, hrh])
    have fL : ∀ f, fit f (scs N L ++ rl) (scs N L ++ rl) := fun f => fit_same (by rw [rens_append, scs_rens, hrl])
    have fR : ∀ f, fit f (scs N R ++ rr) (scs N R ++ rr) := fun f => fit_same (by rw [rens_append, scs_rens, hrr])
    have fS : ∀ f, f 1 = 1 → f 2 = 2 → fit f (lc P ++ (lc Q' ++ [.sl 1 0 n cg, .sl 2 0 n ch])) (lc P ++ (lc Q' ++ [.sl 1 0 n cg, .sl 2 0 n ch])) := fun f h1 h2 => fit_same (by simp only [rens_append, lc_rens, rens, ren, h1, h2])
    have fX : ∀ f, fit f (lc a ++ lc b) (lc a ++ lc b) := fun f => fit_same (by rw [rens_append, lc_rens, lc_rens])
    have h0 : ((i : Int) < (N : Int)) = True := eq_true (by omega)
    have gu := scs_get N us ru (i := i) (by omega)
    have gb := scs_get' N bk (i := i) (by omega)
    have gl := scs_get N L rl (i := i) (by omega)
    have gr := scs_get N R rr (i := i) (by omega)
    have hwi : IntKind.i64.wrap ((i : Int) + 1) = ((i + 1 : Nat) : Int) := by rw [wrap_i64 (by omega) (by omega)]; omega
    have sn := prs_snoc (c + i) k1 p1 k2 p2 (e1 i (by omega)) (e2 i (by omega)) (e3 i (by omega)) (e4 i (by omega))
    have a1 : ((2 * (c + i) + 2) * 64 ≤ 140737488355328) = True := eq_true (by omega)
    have a2 : (2 * (c + i) + 2 ≤ 9223372036854775807) = True := eq_true (by omega)
    have a3 : ((c + i) * 16 = 2 * (c + i) * 8) = True := eq_true (by omega)
    have e5 : 2 * (c + (i + 1)) = 2 * (c + i) + 2 := by omega
    unfold tv2 th2 at ih ⊢
    rw [e5, show c + (i + 1) = c + i + 1 from rfl] at ih
    refine run_loop_eq v9_23.eq_1 ?_
    refine run_driveS 80 ?_
    simp only [go_sem, Nat.reduceAdd, Nat.reduceSub, Nat.reduceLeDiff, Nat.reduceMul, Nat.reduceLT, Nat.reduceEqDiff, Int.reduceLT, Int.reduceLE, Int.reduceAdd, Int.reduceSub, Int.reduceMul, Int.reduceToNat, reduceIte, reduceCtorEq, Nat.reduceBEq, v9_18, v9_21, v9_19, h0, gu]
    refine run_drw (by kernel_rfl) ?_
    refine drun_drive 40 (p := (_, _)) ?_
    simp only [go_sem, Nat.reduceAdd, Nat.reduceSub, Nat.reduceLeDiff, Nat.reduceMul, Nat.reduceLT, Nat.reduceEqDiff, Int.reduceLT, Int.reduceLE, Int.reduceAdd, Int.reduceSub, Int.reduceMul, Int.reduceToNat, reduceIte, reduceCtorEq, Nat.reduceBEq, v9_20, h0, gl, gb, gr]
    refine drun_call' ?_
    simp only [go_sem, Nat.reduceAdd, Nat.reduceSub, Nat.reduceLeDiff, Nat.reduceMul, Nat.reduceLT, Nat.reduceEqDiff, Int.reduceLT, Int.reduceLE, Int.reduceAdd, Int.reduceSub, Int.reduceMul, Int.reduceToNat, reduceIte, reduceCtorEq, Nat.reduceBEq, calV]
    refine mul' hG _ _ (hus i) (hus i) ?_
    refine drun_drive 40 (p := (_, _)) ?_
    simp only [go_sem, Nat.reduceAdd, Nat.reduceSub, Nat.reduceLeDiff, Nat.reduceMul, Nat.reduceLT, Nat.reduceEqDiff, Int.reduceLT, Int.reduceLE, Int.reduceAdd, Int.reduceSub, Int.reduceMul, Int.reduceToNat, reduceIte, reduceCtorEq, Nat.reduceBEq]
    refine drun_call' ?_
    simp only [go_sem, Nat.reduceAdd, Nat.reduceSub, Nat.reduceLeDiff, Nat.reduceMul, Nat.reduceLT, Nat.reduceEqDiff, Int.reduceLT, Int.reduceLE, Int.reduceAdd, Int.reduceSub, Int.reduceMul, Int.reduceToNat, reduceIte, reduceCtorEq, Nat.reduceBEq, calV]
    refine mul' hG _ _ (hbk i) (hbk i) ?_
    refine drun_drive 40 (p := (_, _)) ?_
    simp only [go_sem, Nat.reduceAdd, Nat.reduceSub, Nat.reduceLeDiff, Nat.reduceMul, Nat.reduceLT, Nat.reduceEqDiff, Int.reduceLT, Int.reduceLE, Int.reduceAdd, Int.reduceSub, Int.reduceMul, Int.reduceToNat, reduceIte, reduceCtorEq, Nat.reduceBEq, a1, a2, a3, sn, List.append_assoc]
    refine drun_end ?_
    refine run_driveS 80 ?_
    simp only [go_sem, Nat.reduceAdd, Nat.reduceSub, Nat.reduceLeDiff, Nat.reduceMul, Nat.reduceLT, Nat.reduceEqDiff, Int.reduceLT, Int.reduceLE, Int.reduceAdd, Int.reduceSub, Int.reduceMul, Int.reduceToNat, reduceIte, reduceCtorEq, Nat.reduceBEq, v9_22, hwi]
    refine run_rename [0, 1, 2, 3, 4, 5, 6, 7, 8, 9, 10, 15, 12] rfl (by simp) ?_ ?_ ?_ ih
    · have hgm : ∀ j, j < 13 → gmap [0, 1, 2, 3, 4, 5, 6, 7, 8, 9, 10, 15, 12] 16 j = (if j = 11 then 15 else j) := by decide
      simp only [go_sem, Nat.reduceAdd, Nat.reduceSub, Nat.reduceLeDiff, Nat.reduceMul, Nat.reduceLT, Nat.reduceEqDiff, Int.reduceLT, Int.reduceLE, Int.reduceAdd, Int.reduceSub, Int.reduceMul, Int.reduceToNat, reduceIte, reduceCtorEq, Nat.reduceBEq, hfit, lc_fit, scs_fit, fit, ren, gmap, lw_plain, true_or, or_true, fU, fG, fH, fL, fR, fS _ (hgm 1 (by decide)) (hgm 2 (by decide)), fX]
    · simp [uniq, wrB]
    · simp only [go_sem, Nat.reduceAdd, Nat.reduceSub, Nat.reduceLeDiff, Nat.reduceMul, Nat.reduceLT, Nat.reduceEqDiff, Int.reduceLT, Int.reduceLE, Int.reduceAdd, Int.reduceSub, Int.reduceMul, Int.reduceToNat, reduceIte, reduceCtorEq, Nat.reduceBEq, hfit, lc_fit, scs_fit, fit, ren, gmap, lw_plain, true_or, or_true]
end
end Go.Vs.Tryd
