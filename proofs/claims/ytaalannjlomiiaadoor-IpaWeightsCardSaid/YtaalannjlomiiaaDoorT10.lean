/- T10: what the functions of the program answer, over the machine of plain values. -/
import Derived.Test.YtaalannjlomiiaaDoorT9
set_option linter.unusedVariables false
set_option linter.unusedSimpArgs false
namespace Go.Vs.Tryd
open Go.Proofs
variable {G : Nat → List V}
set_option linter.unusedSimpArgs false
attribute [local go_sem] List.length_append List.all_append ge_iff_le gt_iff_lt Int.natCast_nonneg Int.toNat_natCast Nat.mul_one b_and_ll b_shr_ll b_mul_ll b_add_ll b_or_ll b_shl_ll pick_ll pick_lc pick_bb driveS stopV drive stepV exo expo evs fillV isNil nilKind eqV eqL optA optM sliceAtV ev kn ldc stc splice appV srcV lenV setd wantV exitV rvs rv one List.length_cons List.length_nil List.cons_append List.nil_append List.append_nil List.replicate List.getD_cons_zero List.getD_cons_succ List.set_cons_zero List.set_cons_succ List.getElem?_cons_zero List.getElem?_cons_succ List.getElem?_nil List.take_succ_cons List.take_zero List.take_nil List.drop_succ_cons List.drop_zero List.drop_nil List.all_cons List.all_nil List.any_cons List.any_nil Bool.and_true Bool.true_and Bool.and_self Option.map_some Option.map_none Option.bind_some Option.some.injEq Nat.add_zero Nat.zero_add Int.toNat_zero Int.toNat_one Int.zero_add Int.add_zero if_true if_false ite_true ite_false and_true true_and and_self ne_eq not_false_eq_true not_true_eq_false decide_true decide_false Bool.false_eq_true Bool.not_true Bool.not_false beq_self_eq_true BEq.rfl Bool.not_eq_true Nat.le_refl Int.le_refl Nat.zero_le List.foldl List.map_cons List.map_nil Prod.mk.injEq Int.cast_ofNat_Int Int.zero_le_ofNat b_add_cc b_add_cl b_add_lc b_mul_cc b_mul_cl b_mul_lc b_sub_cc b_sub_cl b_sub_lc b_and_cc b_and_cl b_and_lc b_or_cc b_or_cl b_or_lc b_xor_cc b_xor_cl b_xor_lc b_andNot_cc b_andNot_cl b_andNot_lc b_shr_cc b_shr_cl b_shr_lc b_shl_cc b_shl_cl b_shl_lc b_lss b_leq b_gtr b_geq b_add_i b_sub_i b_mul_i beq_cc beq_cl beq_lc beq_ll b_quo_i b_rem_i neg_u64 wrap_i64 driveD stepD idsAt idOf maskH_nil restore_nil restore_mask List.filterMap_nil List.filterMap_cons VOp.looks VOp.makes exA cells_agg cells_int cells_bool cells_str cells_nilp cells_ptr cells_glob cells_nils cells_sl cells_nilf cells_fn cells_nili cells_ifc known_agg known_tup known_int known_bool known_str known_nilp known_ptr known_glob known_nils known_sl known_nilf known_fn known_nili known_ifc known_unk one_agg one_tup one_int one_bool one_str one_nilp one_ptr one_glob one_nils one_sl one_nilf one_fn one_nili one_ifc asK_int asN_int asB_bool asS_str asG_agg asT_tup
attribute [local go_sem ↓] lc_len lc_take lc_drop lc_known lc_one lc_rens lc_cells lw_known lw_agg lw_asG
set_option maxRecDepth 100000
set_option maxHeartbeats 1000000

theorem lct (a : Nat) (l : List V) : (lc a ++ l).take 4 = lc a := rfl
theorem lcd4 (a : Nat) (l : List V) : (lc a ++ l).drop 4 = l := rfl
theorem lcd8 (a : Nat) (l : List V) : (lc a ++ l).drop 8 = l.drop 4 := rfl
theorem lct8 (a b : Nat) : (lc a ++ lc b).take 8 = lc a ++ lc b := rfl
theorem lcne (a : Nat) (l : List V) : (lc a ++ l = []) = False := eq_false (fun h => by cases h)
attribute [local go_sem ↓] lct lcd4 lcd8 lct8 lcne

/-- The weights of t rounds. -/
noncomputable def wf (f : Nat → Nat) : Nat → Nat → Nat
  | 0, _ => 1
  | t + 1, j => if j % 2 = 0 then wf f t (j / 2) * linv (f t) % ell else wf f t (j / 2) * f t % ell
theorem wf_lt (f : Nat → Nat) : ∀ t j, wf f t j < ell
  | 0, _ => show 1 < ell by decide
  | t + 1, j => by
    unfold wf
    split <;> exact mod_lt' _
theorem wf_even (f : Nat → Nat) (t i : Nat) : wf f (t + 1) (2 * i) = wf f t i * linv (f t) % ell := by
  rw [wf, if_pos (by omega), show 2 * i / 2 = i by omega]
theorem wf_odd (f : Nat → Nat) (t i : Nat) : wf f (t + 1) (2 * i + 1) = wf f t i * f t % ell := by
  rw [wf, if_neg (by omega), show (2 * i + 1) / 2 = i by omega]

theorem scs_two (f : Nat → Nat) : ∀ m, scs (2 * m) f = row m fun j => lc (f (2 * j)) ++ lc (f (2 * j + 1))
  | 0 => rfl
  | m + 1 => by
    have := scs_two f m
    unfold scs at *
    rw [show 2 * (m + 1) = 2 * m + 1 + 1 by omega, row, row, row, this, List.append_assoc]
theorem scs_set2 (m : Nat) (f f' : Nat → Nat) {i a b : Nat} (h : i < m) (ha : f' (2 * i) = a) (hb : f' (2 * i + 1) = b) (hf : ∀ j, j < 2 * m → j ≠ 2 * i → j ≠ 2 * i + 1 → f j = f' j) :
    (scs (2 * m) f).take (2 * i * 4) ++ (lc a ++ lc b) ++ (scs (2 * m) f).drop (2 * i * 4 + 8) = scs (2 * m) f' := by
  rw [show 2 * i * 4 = i * 8 by omega, scs_two, scs_two]
  have := row_set (s := 8) (e := fun j => lc (f (2 * j)) ++ lc (f (2 * j + 1))) (fun j => rfl) (cs := lc a ++ lc b) rfl h
  unfold splice at this
  rw [show (lc a ++ lc b).length = 8 from rfl] at this
  rw [this]
  refine row_congr fun j hj => ?_
  by_cases e : j = i
  · subst e; rw [upd_same, ha, hb]
  · rw [upd_ne e, hf (2 * j) (by omega) (by omega) (by omega), hf (2 * j + 1) (by omega) (by omega) (by omega)]

def wa1 (n : Nat) (cap : Cap) (i : Nat) : List V := [.sl 0 0 n cap, .unk, .nils, .int .i64 0] ++ List.replicate 12 .unk ++ [.sl 0 0 n cap, .int .i64 n, .int .i64 i] ++ List.replicate 43 .unk

theorem wei_loop1 (hG : G 0 = tbl) (f : Nat → Nat) (hf : ∀ j, f j < 115792089237316195423570985008687907853269984665640564039457584007913129639936) (rest : List V) (hrest : ∀ g, rens g rest = rest) (n : Nat) (hn : n < 1000000) (cap : Cap) {Q : V → Heap → Prop} {K : List TI}
    (h4 : (∃ j, j < n ∧ f j % ell = 0) → Q (.tup [.nils, .int .i64 4]) [some ⟨.ro, scs n f ++ rest⟩])
    (hK : (∀ j, j < n → f j % ell ≠ 0) → Run Tryd.prog G 5 1 Q (K, ⟨wa1 n cap n, [some ⟨.ro, scs n f ++ rest⟩]⟩)) : ∀ k i, i + k = n → (∀ j, j < i → f j % ell ≠ 0) → Run Tryd.prog G 5 1 Q (.l v5_10 :: .b 0 :: K, ⟨wa1 n cap i, [some ⟨.ro, scs n f ++ rest⟩]⟩)
  | 0, i, h, hz => by
    obtain rfl : i = n := by omega
    have hft : ∀ g, fit g (scs i f ++ rest) (scs i f ++ rest) := fun g => fit_same (by rw [rens_append, scs_rens, hrest])
    unfold wa1
    have h0 : ((i : Int) < (i : Int)) = False := eq_false (by omega)
    refine run_loop_eq v5_10.eq_1 ?_
    refine run_driveS 80 ?_
    simp only [go_sem, Nat.reduceAdd, Nat.reduceSub, Nat.reduceLeDiff, Nat.reduceMul, Nat.reduceLT, Nat.reduceEqDiff, Int.reduceLT, Int.reduceLE, Int.reduceAdd, Int.reduceSub, Int.reduceMul, Int.reduceToNat, reduceIte, reduceCtorEq, Nat.reduceBEq, v5_4, h0]
    refine run_exit rfl ?_
    refine run_rename [0] rfl (by simp) ?_ ?_ ?_ (hK hz)
    · simp only [go_sem, Nat.reduceAdd, Nat.reduceSub, Nat.reduceLeDiff, Nat.reduceMul, Nat.reduceLT, Nat.reduceEqDiff, Int.reduceLT, Int.reduceLE, Int.reduceAdd, Int.reduceSub, Int.reduceMul, Int.reduceToNat, reduceIte, reduceCtorEq, Nat.reduceBEq, hfit, lc_fit, scs_fit, fit, ren, gmap, lw_plain, true_or, or_true, hft]
    · simp [uniq, wrB]
    · unfold wa1
      simp only [go_sem, Nat.reduceAdd, Nat.reduceSub, Nat.reduceLeDiff, Nat.reduceMul, Nat.reduceLT, Nat.reduceEqDiff, Int.reduceLT, Int.reduceLE, Int.reduceAdd, Int.reduceSub, Int.reduceMul, Int.reduceToNat, reduceIte, reduceCtorEq, Nat.reduceBEq, hfit, lc_fit, scs_fit, fit, ren, gmap, lw_plain, true_or, or_true]
  | k + 1, i, h, hz => by
    have hft : ∀ g, fit g (scs n f ++ rest) (scs n f ++ rest) := fun g => fit_same (by rw [rens_append, scs_rens, hrest])
    unfold wa1
    have h0 : ((i : Int) < (n : Int)) = True := eq_true (by omega)
    have hg := scs_get n f rest (i := i) (by omega)
    have hw : IntKind.i64.wrap ((i : Int) + 1) = ((i + 1 : Nat) : Int) := by rw [wrap_i64 (by omega) (by omega)]; omega
    refine run_loop_eq v5_10.eq_1 ?_
    refine run_driveS 80 ?_
    simp only [go_sem, Nat.reduceAdd, Nat.reduceSub, Nat.reduceLeDiff, Nat.reduceMul, Nat.reduceLT, Nat.reduceEqDiff, Int.reduceLT, Int.reduceLE, Int.reduceAdd, Int.reduceSub, Int.reduceMul, Int.reduceToNat, reduceIte, reduceCtorEq, Nat.reduceBEq, v5_4, v5_8, v5_5, v5_6, h0, hg]
    refine run_call' rfl ?_
    simp only [go_sem, Nat.reduceAdd, Nat.reduceSub, Nat.reduceLeDiff, Nat.reduceMul, Nat.reduceLT, Nat.reduceEqDiff, Int.reduceLT, Int.reduceLE, Int.reduceAdd, Int.reduceSub, Int.reduceMul, Int.reduceToNat, reduceIte, reduceCtorEq, Nat.reduceBEq, calV]
    refine is_zero' hG _ (hf i) ?_
    refine run_driveS 80 ?_
    simp only [go_sem, Nat.reduceAdd, Nat.reduceSub, Nat.reduceLeDiff, Nat.reduceMul, Nat.reduceLT, Nat.reduceEqDiff, Int.reduceLT, Int.reduceLE, Int.reduceAdd, Int.reduceSub, Int.reduceMul, Int.reduceToNat, reduceIte, reduceCtorEq, Nat.reduceBEq]
    by_cases hz' : f i % ell = 0
    · refine run_cond_t (by simp only [go_sem, Nat.reduceAdd, Nat.reduceSub, Nat.reduceLeDiff, Nat.reduceMul, Nat.reduceLT, Nat.reduceEqDiff, Int.reduceLT, Int.reduceLE, Int.reduceAdd, Int.reduceSub, Int.reduceMul, Int.reduceToNat, reduceIte, reduceCtorEq, Nat.reduceBEq, decide_eq_true hz']) ?_
      refine run_driveS 80 ?_
      simp only [go_sem, Nat.reduceAdd, Nat.reduceSub, Nat.reduceLeDiff, Nat.reduceMul, Nat.reduceLT, Nat.reduceEqDiff, Int.reduceLT, Int.reduceLE, Int.reduceAdd, Int.reduceSub, Int.reduceMul, Int.reduceToNat, reduceIte, reduceCtorEq, Nat.reduceBEq, v5_7]
      refine run_ret_drop Tryd.func5 res5 [0] (.tup [.nils, .int .i64 4]) _ rfl (by simp) ?_ ?_ ?_ (h4 ⟨i, by omega, hz'⟩)
      · simp only [go_sem, Nat.reduceAdd, Nat.reduceSub, Nat.reduceLeDiff, Nat.reduceMul, Nat.reduceLT, Nat.reduceEqDiff, Int.reduceLT, Int.reduceLE, Int.reduceAdd, Int.reduceSub, Int.reduceMul, Int.reduceToNat, reduceIte, reduceCtorEq, Nat.reduceBEq, hfit, lc_fit, scs_fit, fit, ren, gmap, lw_plain, true_or, or_true, hft]
      · simp [uniq, wrB]
      · simp only [go_sem, Nat.reduceAdd, Nat.reduceSub, Nat.reduceLeDiff, Nat.reduceMul, Nat.reduceLT, Nat.reduceEqDiff, Int.reduceLT, Int.reduceLE, Int.reduceAdd, Int.reduceSub, Int.reduceMul, Int.reduceToNat, reduceIte, reduceCtorEq, Nat.reduceBEq, r5, ren, rens, gmap]
    · refine run_cond_f (by simp only [go_sem, Nat.reduceAdd, Nat.reduceSub, Nat.reduceLeDiff, Nat.reduceMul, Nat.reduceLT, Nat.reduceEqDiff, Int.reduceLT, Int.reduceLE, Int.reduceAdd, Int.reduceSub, Int.reduceMul, Int.reduceToNat, reduceIte, reduceCtorEq, Nat.reduceBEq, decide_eq_false hz']) ?_
      refine run_driveS 80 ?_
      simp only [go_sem, Nat.reduceAdd, Nat.reduceSub, Nat.reduceLeDiff, Nat.reduceMul, Nat.reduceLT, Nat.reduceEqDiff, Int.reduceLT, Int.reduceLE, Int.reduceAdd, Int.reduceSub, Int.reduceMul, Int.reduceToNat, reduceIte, reduceCtorEq, Nat.reduceBEq, v5_9, hw]
      have ih := wei_loop1 hG f hf rest hrest n hn cap h4 hK k (i + 1) (by omega) (fun j hj => by
        by_cases e : j = i
        · subst e; exact hz'
        · exact hz j (by omega))
      refine run_rename [0] rfl (by simp) ?_ ?_ ?_ ih
      · simp only [go_sem, Nat.reduceAdd, Nat.reduceSub, Nat.reduceLeDiff, Nat.reduceMul, Nat.reduceLT, Nat.reduceEqDiff, Int.reduceLT, Int.reduceLE, Int.reduceAdd, Int.reduceSub, Int.reduceMul, Int.reduceToNat, reduceIte, reduceCtorEq, Nat.reduceBEq, hfit, lc_fit, scs_fit, fit, ren, gmap, lw_plain, true_or, or_true, hft]
      · simp [uniq, wrB]
      · unfold wa1
        simp only [go_sem, Nat.reduceAdd, Nat.reduceSub, Nat.reduceLeDiff, Nat.reduceMul, Nat.reduceLT, Nat.reduceEqDiff, Int.reduceLT, Int.reduceLE, Int.reduceAdd, Int.reduceSub, Int.reduceMul, Int.reduceToNat, reduceIte, reduceCtorEq, Nat.reduceBEq, hfit, lc_fit, scs_fit, fit, ren, gmap, lw_plain, true_or, or_true]

def wb (n : Nat) (cap : Cap) (m t : Nat) : List V := [.sl 0 0 n cap, .unk, .nils, .int .i64 0, .unk, .unk, .sl 1 0 n (.exact n), .sl 2 0 m (.exact m)] ++ List.replicate 21 .unk ++ [.sl 0 0 n cap, .int .i64 n, .int .i64 t] ++ List.replicate 30 .unk
noncomputable def whb (f : Nat → Nat) (rest : List V) (n m t : Nat) : Heap := [some ⟨.ro, scs n f ++ rest⟩, some ⟨.rw, scs n fun j => linv (f j)⟩, some ⟨.rw, scs m (wf f t)⟩]
def wc (n : Nat) (cap : Cap) (m t i : Nat) : List V := [.sl 0 0 n cap, .unk, .nils, .int .i64 0, .unk, .unk, .sl 1 0 n (.exact n), .sl 2 0 m (.exact m), .int .i64 t, .ptr 3 0, .sl 4 0 (2 * i) (.exact (2 * m))] ++ List.replicate 18 .unk ++ [.sl 0 0 n cap, .int .i64 n, .int .i64 t] ++ List.replicate 8 .unk ++ [.sl 2 0 m (.exact m), .int .i64 m, .int .i64 i] ++ List.replicate 19 .unk
noncomputable def whc (f : Nat → Nat) (rest : List V) (n m t i : Nat) : Heap := [some ⟨.ro, scs n f ++ rest⟩, some ⟨.rw, scs n fun j => linv (f j)⟩, some ⟨.rw, scs m (wf f t)⟩, some ⟨.rw, lc (f t)⟩, some ⟨.rw, scs (2 * m) fun j => if j < 2 * i then wf f (t + 1) j else 0⟩]

theorem wei_loop3 (hG : G 0 = tbl) (f : Nat → Nat) (hf : ∀ j, f j < 115792089237316195423570985008687907853269984665640564039457584007913129639936) (rest : List V) (hrest : ∀ g, rens g rest = rest) (n : Nat) (hn : n < 1000000) (cap : Cap) (m t : Nat) (ht : t < n) (hm : m < 1000000) {Q : V → Heap → Prop} {K : List TI}
    (hK : Run Tryd.prog G 5 1 Q (K, ⟨wc n cap m t m, whc f rest n m t m⟩)) : ∀ k i, i + k = m → Run Tryd.prog G 5 1 Q (.l v5_24 :: .b 4 :: K, ⟨wc n cap m t i, whc f rest n m t i⟩)
  | 0, i, h => by
    obtain rfl : i = m := by omega
    have hft : ∀ g, fit g (scs n f ++ rest) (scs n f ++ rest) := fun g => fit_same (by rw [rens_append, scs_rens, hrest])
    unfold wc whc
    have h0 : ((i : Int) < (i : Int)) = False := eq_false (by omega)
    refine run_loop_eq v5_24.eq_1 ?_
    refine run_driveS 80 ?_
    simp only [go_sem, Nat.reduceAdd, Nat.reduceSub, Nat.reduceLeDiff, Nat.reduceMul, Nat.reduceLT, Nat.reduceEqDiff, Int.reduceLT, Int.reduceLE, Int.reduceAdd, Int.reduceSub, Int.reduceMul, Int.reduceToNat, reduceIte, reduceCtorEq, Nat.reduceBEq, v5_19, h0]
    refine run_exit rfl ?_
    refine run_rename [0, 1, 2, 3, 4] rfl (by simp) ?_ ?_ ?_ hK
    · unfold whc
      simp only [go_sem, Nat.reduceAdd, Nat.reduceSub, Nat.reduceLeDiff, Nat.reduceMul, Nat.reduceLT, Nat.reduceEqDiff, Int.reduceLT, Int.reduceLE, Int.reduceAdd, Int.reduceSub, Int.reduceMul, Int.reduceToNat, reduceIte, reduceCtorEq, Nat.reduceBEq, hfit, lc_fit, scs_fit, fit, ren, gmap, lw_plain, true_or, or_true, hft]
    · simp [uniq, whc, wrB]
    · unfold wc
      simp only [go_sem, Nat.reduceAdd, Nat.reduceSub, Nat.reduceLeDiff, Nat.reduceMul, Nat.reduceLT, Nat.reduceEqDiff, Int.reduceLT, Int.reduceLE, Int.reduceAdd, Int.reduceSub, Int.reduceMul, Int.reduceToNat, reduceIte, reduceCtorEq, Nat.reduceBEq, hfit, lc_fit, scs_fit, fit, ren, gmap, lw_plain, true_or, or_true]
  | k + 1, i, h => by
    have ih := wei_loop3 hG f hf rest hrest n hn cap m t ht hm hK k (i + 1) (by omega)
    have hft : ∀ g, fit g (scs n f ++ rest) (scs n f ++ rest) := fun g => fit_same (by rw [rens_append, scs_rens, hrest])
    unfold wc whc
    have h0 : ((i : Int) < (m : Int)) = True := eq_true (by omega)
    have h1 : ((t : Int) < (n : Int)) = True := eq_true (by omega)
    have h2 : (2 * i + 2 ≤ 2 * m) = True := eq_true (by omega)
    have hg := scs_get' m (wf f t) (i := i) (by omega)
    have hg2 := scs_get' n (fun j => linv (f j)) (i := t) (by omega)
    have hw : IntKind.i64.wrap ((i : Int) + 1) = ((i + 1 : Nat) : Int) := by rw [wrap_i64 (by omega) (by omega)]; omega
    have hin : (2 * i * 4 + 8 ≤ (scs (2 * m) fun j => if j < 2 * i then wf f (t + 1) j else 0).length) = True := eq_true (by rw [scs_len]; omega)
    have hset := scs_set2 m (fun j => if j < 2 * i then wf f (t + 1) j else 0) (fun j => if j < 2 * (i + 1) then wf f (t + 1) j else 0) (i := i) (a := wf f t i * linv (f t) % ell) (b := wf f t i * f t % ell) (by omega)
      (by rw [if_pos (by omega), wf_even]) (by rw [if_pos (by omega), wf_odd]) (fun j _ h1 h2 => by by_cases h3 : j < 2 * i <;> simp [h3] <;> omega)
    refine run_loop_eq v5_24.eq_1 ?_
    refine run_driveS 80 ?_
    simp only [go_sem, Nat.reduceAdd, Nat.reduceSub, Nat.reduceLeDiff, Nat.reduceMul, Nat.reduceLT, Nat.reduceEqDiff, Int.reduceLT, Int.reduceLE, Int.reduceAdd, Int.reduceSub, Int.reduceMul, Int.reduceToNat, reduceIte, reduceCtorEq, Nat.reduceBEq, v5_19, v5_22, v5_20, h0, hg]
    refine run_drw (by kernel_rfl) ?_
    refine drun_drive 40 (p := (_, _)) ?_
    simp only [go_sem, Nat.reduceAdd, Nat.reduceSub, Nat.reduceLeDiff, Nat.reduceMul, Nat.reduceLT, Nat.reduceEqDiff, Int.reduceLT, Int.reduceLE, Int.reduceAdd, Int.reduceSub, Int.reduceMul, Int.reduceToNat, reduceIte, reduceCtorEq, Nat.reduceBEq, v5_21, h0, h1, hg2]
    refine drun_call' ?_
    simp only [go_sem, Nat.reduceAdd, Nat.reduceSub, Nat.reduceLeDiff, Nat.reduceMul, Nat.reduceLT, Nat.reduceEqDiff, Int.reduceLT, Int.reduceLE, Int.reduceAdd, Int.reduceSub, Int.reduceMul, Int.reduceToNat, reduceIte, reduceCtorEq, Nat.reduceBEq, calV]
    refine mul' hG _ _ (Nat.lt_trans (wf_lt f t i) ell_lt) (Nat.lt_trans (linv_lt _) ell_lt) ?_
    refine drun_drive 40 (p := (_, _)) ?_
    simp only [go_sem, Nat.reduceAdd, Nat.reduceSub, Nat.reduceLeDiff, Nat.reduceMul, Nat.reduceLT, Nat.reduceEqDiff, Int.reduceLT, Int.reduceLE, Int.reduceAdd, Int.reduceSub, Int.reduceMul, Int.reduceToNat, reduceIte, reduceCtorEq, Nat.reduceBEq]
    refine drun_call' ?_
    simp only [go_sem, Nat.reduceAdd, Nat.reduceSub, Nat.reduceLeDiff, Nat.reduceMul, Nat.reduceLT, Nat.reduceEqDiff, Int.reduceLT, Int.reduceLE, Int.reduceAdd, Int.reduceSub, Int.reduceMul, Int.reduceToNat, reduceIte, reduceCtorEq, Nat.reduceBEq, calV]
    refine mul' hG _ _ (Nat.lt_trans (wf_lt f t i) ell_lt) (hf t) ?_
    refine drun_drive 40 (p := (_, _)) ?_
    simp only [go_sem, Nat.reduceAdd, Nat.reduceSub, Nat.reduceLeDiff, Nat.reduceMul, Nat.reduceLT, Nat.reduceEqDiff, Int.reduceLT, Int.reduceLE, Int.reduceAdd, Int.reduceSub, Int.reduceMul, Int.reduceToNat, reduceIte, reduceCtorEq, Nat.reduceBEq, h2, hin, hset]
    refine drun_end ?_
    refine run_driveS 80 ?_
    simp only [go_sem, Nat.reduceAdd, Nat.reduceSub, Nat.reduceLeDiff, Nat.reduceMul, Nat.reduceLT, Nat.reduceEqDiff, Int.reduceLT, Int.reduceLE, Int.reduceAdd, Int.reduceSub, Int.reduceMul, Int.reduceToNat, reduceIte, reduceCtorEq, Nat.reduceBEq, v5_23, hw]
    refine run_rename [0, 1, 2, 3, 4] rfl (by simp) ?_ ?_ ?_ ih
    · unfold whc
      simp only [go_sem, Nat.reduceAdd, Nat.reduceSub, Nat.reduceLeDiff, Nat.reduceMul, Nat.reduceLT, Nat.reduceEqDiff, Int.reduceLT, Int.reduceLE, Int.reduceAdd, Int.reduceSub, Int.reduceMul, Int.reduceToNat, reduceIte, reduceCtorEq, Nat.reduceBEq, hfit, lc_fit, scs_fit, fit, ren, gmap, lw_plain, true_or, or_true, hft]
    · simp [uniq, whc, wrB]
    · unfold wc
      rw [show 2 * (i + 1) = 2 * i + 2 by omega]
      simp only [go_sem, Nat.reduceAdd, Nat.reduceSub, Nat.reduceLeDiff, Nat.reduceMul, Nat.reduceLT, Nat.reduceEqDiff, Int.reduceLT, Int.reduceLE, Int.reduceAdd, Int.reduceSub, Int.reduceMul, Int.reduceToNat, reduceIte, reduceCtorEq, Nat.reduceBEq, hfit, lc_fit, scs_fit, fit, ren, gmap, lw_plain, true_or, or_true]

end Go.Vs.Tryd
namespace Go.Vs.Tryd
open Go.Proofs
variable {G : Nat → List V}
set_option linter.unusedSimpArgs false
attribute [local go_sem] List.length_append List.all_append ge_iff_le gt_iff_lt Int.natCast_nonneg Int.toNat_natCast Nat.mul_one b_and_ll b_shr_ll b_mul_ll b_add_ll b_or_ll b_shl_ll pick_ll pick_lc pick_bb driveS stopV drive stepV exo expo evs fillV isNil nilKind eqV eqL optA optM sliceAtV ev kn ldc stc splice appV srcV lenV setd wantV exitV rvs rv one List.length_cons List.length_nil List.cons_append List.nil_append List.append_nil List.replicate List.getD_cons_zero List.getD_cons_succ List.set_cons_zero List.set_cons_succ List.getElem?_cons_zero List.getElem?_cons_succ List.getElem?_nil List.take_succ_cons List.take_zero List.take_nil List.drop_succ_cons List.drop_zero List.drop_nil List.all_cons List.all_nil List.any_cons List.any_nil Bool.and_true Bool.true_and Bool.and_self Option.map_some Option.map_none Option.bind_some Option.some.injEq Nat.add_zero Nat.zero_add Int.toNat_zero Int.toNat_one Int.zero_add Int.add_zero if_true if_false ite_true ite_false and_true true_and and_self ne_eq not_false_eq_true not_true_eq_false decide_true decide_false Bool.false_eq_true Bool.not_true Bool.not_false beq_self_eq_true BEq.rfl Bool.not_eq_true Nat.le_refl Int.le_refl Nat.zero_le List.foldl List.map_cons List.map_nil Prod.mk.injEq Int.cast_ofNat_Int Int.zero_le_ofNat b_add_cc b_add_cl b_add_lc b_mul_cc b_mul_cl b_mul_lc b_sub_cc b_sub_cl b_sub_lc b_and_cc b_and_cl b_and_lc b_or_cc b_or_cl b_or_lc b_xor_cc b_xor_cl b_xor_lc b_andNot_cc b_andNot_cl b_andNot_lc b_shr_cc b_shr_cl b_shr_lc b_shl_cc b_shl_cl b_shl_lc b_lss b_leq b_gtr b_geq b_add_i b_sub_i b_mul_i beq_cc beq_cl beq_lc beq_ll b_quo_i b_rem_i neg_u64 wrap_i64 driveD stepD idsAt idOf maskH_nil restore_nil restore_mask List.filterMap_nil List.filterMap_cons VOp.looks VOp.makes exA cells_agg cells_int cells_bool cells_str cells_nilp cells_ptr cells_glob cells_nils cells_sl cells_nilf cells_fn cells_nili cells_ifc known_agg known_tup known_int known_bool known_str known_nilp known_ptr known_glob known_nils known_sl known_nilf known_fn known_nili known_ifc known_unk one_agg one_tup one_int one_bool one_str one_nilp one_ptr one_glob one_nils one_sl one_nilf one_fn one_nili one_ifc asK_int asN_int asB_bool asS_str asG_agg asT_tup
attribute [local go_sem ↓] lc_len lc_take lc_drop lc_known lc_one lc_rens lc_cells lw_known lw_agg lw_asG
attribute [local go_sem ↓] lct lcd4 lcd8 lct8 lcne
set_option maxRecDepth 100000
set_option maxHeartbeats 1000000

theorem wei_loop2 (hG : G 0 = tbl) (f : Nat → Nat) (hf : ∀ j, f j < 115792089237316195423570985008687907853269984665640564039457584007913129639936) (rest : List V) (hrest : ∀ g, rens g rest = rest) (n : Nat) (hn : n ≤ 10) (cap : Cap) {Q : V → Heap → Prop} {K : List TI}
    (hK : Run Tryd.prog G 5 1 Q (K, ⟨wb n cap (2 ^ n) n, whb f rest n (2 ^ n) n⟩)) : ∀ k t, t + k = n → Run Tryd.prog G 5 1 Q (.l v5_29 :: .b 2 :: K, ⟨wb n cap (2 ^ t) t, whb f rest n (2 ^ t) t⟩)
  | 0, i, h => by
    obtain rfl : i = n := by omega
    have hft : ∀ g, fit g (scs i f ++ rest) (scs i f ++ rest) := fun g => fit_same (by rw [rens_append, scs_rens, hrest])
    unfold wb whb
    have h0 : ((i : Int) < (i : Int)) = False := eq_false (by omega)
    refine run_loop_eq v5_29.eq_1 ?_
    refine run_driveS 80 ?_
    simp only [go_sem, Nat.reduceAdd, Nat.reduceSub, Nat.reduceLeDiff, Nat.reduceMul, Nat.reduceLT, Nat.reduceEqDiff, Int.reduceLT, Int.reduceLE, Int.reduceAdd, Int.reduceSub, Int.reduceMul, Int.reduceToNat, reduceIte, reduceCtorEq, Nat.reduceBEq, v5_15, h0]
    refine run_exit rfl ?_
    refine run_rename [0, 1, 2] rfl (by simp) ?_ ?_ ?_ hK
    · unfold whb
      simp only [go_sem, Nat.reduceAdd, Nat.reduceSub, Nat.reduceLeDiff, Nat.reduceMul, Nat.reduceLT, Nat.reduceEqDiff, Int.reduceLT, Int.reduceLE, Int.reduceAdd, Int.reduceSub, Int.reduceMul, Int.reduceToNat, reduceIte, reduceCtorEq, Nat.reduceBEq, hfit, lc_fit, scs_fit, fit, ren, gmap, lw_plain, true_or, or_true, hft]
    · simp [uniq, whb, wrB]
    · unfold wb
      simp only [go_sem, Nat.reduceAdd, Nat.reduceSub, Nat.reduceLeDiff, Nat.reduceMul, Nat.reduceLT, Nat.reduceEqDiff, Int.reduceLT, Int.reduceLE, Int.reduceAdd, Int.reduceSub, Int.reduceMul, Int.reduceToNat, reduceIte, reduceCtorEq, Nat.reduceBEq, hfit, lc_fit, scs_fit, fit, ren, gmap, lw_plain, true_or, or_true]
  | k + 1, t, h => by
    have ih := wei_loop2 hG f hf rest hrest n hn cap hK k (t + 1) (by omega)
    have hft : ∀ g, fit g (scs n f ++ rest) (scs n f ++ rest) := fun g => fit_same (by rw [rens_append, scs_rens, hrest])
    have hp : 2 ^ t ≤ 2 ^ 10 := Nat.pow_le_pow_right (by decide) (by omega)
    have h2p : 2 ^ (t + 1) = 2 * 2 ^ t := by rw [Nat.pow_succ, Nat.mul_comm]
    rw [h2p] at ih
    generalize 2 ^ t = m at *
    unfold wb whb
    have h1 : ((t : Int) < (n : Int)) = True := eq_true (by omega)
    have hg := scs_get n f rest (i := t) (by omega)
    have hw : IntKind.i64.wrap ((t : Int) + 1) = ((t + 1 : Nat) : Int) := by rw [wrap_i64 (by omega) (by omega)]; omega
    have hw2 : IntKind.i64.wrap (2 * (m : Int)) = ((2 * m : Nat) : Int) := by rw [wrap_i64 (by omega) (by omega)]; omega
    have h2 : ((32 : Int) * ((2 * m : Nat) : Int) ≤ 281474976710656) = True := eq_true (by omega)
    have h3 : (((2 * m : Nat) : Int) ≤ 9223372036854775807) = True := eq_true (by omega)
    refine run_loop_eq v5_29.eq_1 ?_
    refine run_driveS 80 ?_
    simp only [go_sem, Nat.reduceAdd, Nat.reduceSub, Nat.reduceLeDiff, Nat.reduceMul, Nat.reduceLT, Nat.reduceEqDiff, Int.reduceLT, Int.reduceLE, Int.reduceAdd, Int.reduceSub, Int.reduceMul, Int.reduceToNat, reduceIte, reduceCtorEq, Nat.reduceBEq, v5_15, v5_27, v5_16, v5_17, v5_18, v5_25, h1, hg, hw2, h2, h3, scs_zero]
    refine run_rename [0, 1, 2, 3, 4] rfl (by simp) ?_ ?_ ?_ (wei_loop3 hG f hf rest hrest n (by omega) cap m t (by omega) (by omega) (K := .c (.reg v5_26) :: .b 3 :: .c (.reg v5_28) :: .l v5_29 :: .b 2 :: K) ?_ m 0 (by omega))
    · unfold whc
      rw [show (scs (2 * m) fun j => if j < 2 * 0 then wf f (t + 1) j else 0) = scs (2 * m) fun _ => 0 from scs_congr fun j _ => if_neg (by omega)]
      simp only [go_sem, Nat.reduceAdd, Nat.reduceSub, Nat.reduceLeDiff, Nat.reduceMul, Nat.reduceLT, Nat.reduceEqDiff, Int.reduceLT, Int.reduceLE, Int.reduceAdd, Int.reduceSub, Int.reduceMul, Int.reduceToNat, reduceIte, reduceCtorEq, Nat.reduceBEq, hfit, lc_fit, scs_fit, fit, ren, gmap, lw_plain, true_or, or_true, hft]
    · simp [uniq, whc, wrB]
    · unfold wc
      simp only [go_sem, Nat.reduceAdd, Nat.reduceSub, Nat.reduceLeDiff, Nat.reduceMul, Nat.reduceLT, Nat.reduceEqDiff, Int.reduceLT, Int.reduceLE, Int.reduceAdd, Int.reduceSub, Int.reduceMul, Int.reduceToNat, reduceIte, reduceCtorEq, Nat.reduceBEq, hfit, lc_fit, scs_fit, fit, ren, gmap, lw_plain, true_or, or_true]
    · unfold wc whc
      refine run_driveS 80 ?_
      simp only [go_sem, Nat.reduceAdd, Nat.reduceSub, Nat.reduceLeDiff, Nat.reduceMul, Nat.reduceLT, Nat.reduceEqDiff, Int.reduceLT, Int.reduceLE, Int.reduceAdd, Int.reduceSub, Int.reduceMul, Int.reduceToNat, reduceIte, reduceCtorEq, Nat.reduceBEq, v5_26, v5_28, hw]
      refine run_rename [0, 1, 4] rfl (by simp) ?_ ?_ ?_ ih
      · unfold whb
        rw [show (scs (2 * m) fun j => if j < 2 * m then wf f (t + 1) j else 0) = scs (2 * m) (wf f (t + 1)) from scs_congr fun j hj => if_pos hj]
        simp only [go_sem, Nat.reduceAdd, Nat.reduceSub, Nat.reduceLeDiff, Nat.reduceMul, Nat.reduceLT, Nat.reduceEqDiff, Int.reduceLT, Int.reduceLE, Int.reduceAdd, Int.reduceSub, Int.reduceMul, Int.reduceToNat, reduceIte, reduceCtorEq, Nat.reduceBEq, hfit, lc_fit, scs_fit, fit, ren, gmap, lw_plain, true_or, or_true, hft]
      · simp [uniq, whb, wrB]
      · unfold wb
        simp only [go_sem, Nat.reduceAdd, Nat.reduceSub, Nat.reduceLeDiff, Nat.reduceMul, Nat.reduceLT, Nat.reduceEqDiff, Int.reduceLT, Int.reduceLE, Int.reduceAdd, Int.reduceSub, Int.reduceMul, Int.reduceToNat, reduceIte, reduceCtorEq, Nat.reduceBEq, hfit, lc_fit, scs_fit, fit, ren, gmap, lw_plain, true_or, or_true]

theorem weights (hG : G 0 = tbl) (f : Nat → Nat) (hf : ∀ j, f j < 115792089237316195423570985008687907853269984665640564039457584007913129639936) (rest : List V) (hrest : ∀ g, rens g rest = rest) (n : Nat) (hn : n < 1000000) (cap : Cap) (Q : V → Heap → Prop)
    (h2 : 10 < n → Q (.tup [.nils, .int .i64 2]) [some ⟨.ro, scs n f ++ rest⟩])
    (h4 : n ≤ 10 → (∃ j, j < n ∧ f j % ell = 0) → Q (.tup [.nils, .int .i64 4]) [some ⟨.ro, scs n f ++ rest⟩])
    (h0 : n ≤ 10 → (∀ j, j < n → f j % ell ≠ 0) → Q (.tup [.sl 1 0 (2 ^ n) (.exact (2 ^ n)), .int .i64 0]) [some ⟨.ro, scs n f ++ rest⟩, some ⟨.rw, scs (2 ^ n) (wf f n)⟩]) : VCall Tryd.prog G 5 [.sl 0 0 n cap] [some ⟨.ro, scs n f ++ rest⟩] Q := by
  refine vcall_body Tryd.func5 nm5 code5 nt5 ?_
  have hft : ∀ g, fit g (scs n f ++ rest) (scs n f ++ rest) := fun g => fit_same (by rw [rens_append, scs_rens, hrest])
  refine run_driveS 80 ?_
  simp only [go_sem, Nat.reduceAdd, Nat.reduceSub, Nat.reduceLeDiff, Nat.reduceMul, Nat.reduceLT, Nat.reduceEqDiff, Int.reduceLT, Int.reduceLE, Int.reduceAdd, Int.reduceSub, Int.reduceMul, Int.reduceToNat, reduceIte, reduceCtorEq, Nat.reduceBEq, v5, v5_0, v5_1]
  by_cases hn2 : 10 < n
  · have hd : ((10 : Int) < (n : Int)) = True := eq_true (by omega)
    refine run_cond_t (by simp only [go_sem, Nat.reduceAdd, Nat.reduceSub, Nat.reduceLeDiff, Nat.reduceMul, Nat.reduceLT, Nat.reduceEqDiff, Int.reduceLT, Int.reduceLE, Int.reduceAdd, Int.reduceSub, Int.reduceMul, Int.reduceToNat, reduceIte, reduceCtorEq, Nat.reduceBEq, hd]) ?_
    refine run_driveS 80 ?_
    simp only [go_sem, Nat.reduceAdd, Nat.reduceSub, Nat.reduceLeDiff, Nat.reduceMul, Nat.reduceLT, Nat.reduceEqDiff, Int.reduceLT, Int.reduceLE, Int.reduceAdd, Int.reduceSub, Int.reduceMul, Int.reduceToNat, reduceIte, reduceCtorEq, Nat.reduceBEq, v5_2]
    refine run_ret' Tryd.func5 res5 ?_
    simp only [go_sem, Nat.reduceAdd, Nat.reduceSub, Nat.reduceLeDiff, Nat.reduceMul, Nat.reduceLT, Nat.reduceEqDiff, Int.reduceLT, Int.reduceLE, Int.reduceAdd, Int.reduceSub, Int.reduceMul, Int.reduceToNat, reduceIte, reduceCtorEq, Nat.reduceBEq, r5]
    exact h2 hn2
  · have hd : ((10 : Int) < (n : Int)) = False := eq_false (by omega)
    refine run_cond_f (by simp only [go_sem, Nat.reduceAdd, Nat.reduceSub, Nat.reduceLeDiff, Nat.reduceMul, Nat.reduceLT, Nat.reduceEqDiff, Int.reduceLT, Int.reduceLE, Int.reduceAdd, Int.reduceSub, Int.reduceMul, Int.reduceToNat, reduceIte, reduceCtorEq, Nat.reduceBEq, hd]) ?_
    refine run_driveS 80 ?_
    simp only [go_sem, Nat.reduceAdd, Nat.reduceSub, Nat.reduceLeDiff, Nat.reduceMul, Nat.reduceLT, Nat.reduceEqDiff, Int.reduceLT, Int.reduceLE, Int.reduceAdd, Int.reduceSub, Int.reduceMul, Int.reduceToNat, reduceIte, reduceCtorEq, Nat.reduceBEq, v5_3, v5_11]
    refine run_rename [0] rfl (by simp) ?_ ?_ ?_ (wei_loop1 hG f hf rest hrest n hn cap (K := [.c (.seq (.reg v5_12) (.seq (.reg v5_13) (.seq (.seq (.reg v5_14) (.block 2 v5_30)) (.seq (.reg v5_31) .ret))))]) (h4 (by omega)) (fun hz => ?_) n 0 (by omega) (fun j hj => by omega))
    · simp only [go_sem, Nat.reduceAdd, Nat.reduceSub, Nat.reduceLeDiff, Nat.reduceMul, Nat.reduceLT, Nat.reduceEqDiff, Int.reduceLT, Int.reduceLE, Int.reduceAdd, Int.reduceSub, Int.reduceMul, Int.reduceToNat, reduceIte, reduceCtorEq, Nat.reduceBEq, hfit, lc_fit, scs_fit, fit, ren, gmap, lw_plain, true_or, or_true, hft]
    · simp [uniq, wrB]
    · unfold wa1
      simp only [go_sem, Nat.reduceAdd, Nat.reduceSub, Nat.reduceLeDiff, Nat.reduceMul, Nat.reduceLT, Nat.reduceEqDiff, Int.reduceLT, Int.reduceLE, Int.reduceAdd, Int.reduceSub, Int.reduceMul, Int.reduceToNat, reduceIte, reduceCtorEq, Nat.reduceBEq, hfit, lc_fit, scs_fit, fit, ren, gmap, lw_plain, true_or, or_true]
    · unfold wa1
      refine run_driveS 80 ?_
      simp only [go_sem, Nat.reduceAdd, Nat.reduceSub, Nat.reduceLeDiff, Nat.reduceMul, Nat.reduceLT, Nat.reduceEqDiff, Int.reduceLT, Int.reduceLE, Int.reduceAdd, Int.reduceSub, Int.reduceMul, Int.reduceToNat, reduceIte, reduceCtorEq, Nat.reduceBEq, v5_12]
      refine run_call' rfl ?_
      simp only [go_sem, Nat.reduceAdd, Nat.reduceSub, Nat.reduceLeDiff, Nat.reduceMul, Nat.reduceLT, Nat.reduceEqDiff, Int.reduceLT, Int.reduceLE, Int.reduceAdd, Int.reduceSub, Int.reduceMul, Int.reduceToNat, reduceIte, reduceCtorEq, Nat.reduceBEq, calV]
      refine vcall_at (invert_all hG f hf rest hrest n hn cap (fun v h => (n = 0 ∧ v = .nils ∧ h = [some ⟨.ro, scs n f ++ rest⟩]) ∨ (0 < n ∧ v = .sl 1 0 n (.exact n) ∧ h = [some ⟨.ro, scs n f ++ rest⟩, some ⟨.rw, scs n fun j => linv (f j)⟩])) (fun e => .inl ⟨e, rfl, rfl⟩) (fun e => .inr ⟨e, rfl, rfl⟩)) [0] (by simp) ?_ ?_ ?_ ?_
      · simp only [go_sem, Nat.reduceAdd, Nat.reduceSub, Nat.reduceLeDiff, Nat.reduceMul, Nat.reduceLT, Nat.reduceEqDiff, Int.reduceLT, Int.reduceLE, Int.reduceAdd, Int.reduceSub, Int.reduceMul, Int.reduceToNat, reduceIte, reduceCtorEq, Nat.reduceBEq, hfit, lc_fit, scs_fit, fit, ren, gmap, lw_plain, true_or, or_true, hft]
      · simp [uniq, wrB]
      · simp only [go_sem, Nat.reduceAdd, Nat.reduceSub, Nat.reduceLeDiff, Nat.reduceMul, Nat.reduceLT, Nat.reduceEqDiff, Int.reduceLT, Int.reduceLE, Int.reduceAdd, Int.reduceSub, Int.reduceMul, Int.reduceToNat, reduceIte, reduceCtorEq, Nat.reduceBEq, ren, rens, gmap]
      · rintro v h'' (⟨e, rfl, rfl⟩ | ⟨e, rfl, rfl⟩)
        · simp only [go_sem, Nat.reduceAdd, Nat.reduceSub, Nat.reduceLeDiff, Nat.reduceMul, Nat.reduceLT, Nat.reduceEqDiff, Int.reduceLT, Int.reduceLE, Int.reduceAdd, Int.reduceSub, Int.reduceMul, Int.reduceToNat, reduceIte, reduceCtorEq, Nat.reduceBEq, ren, rens, gmap, puts, wrB, Bool.false_eq_true, if_false, renB, scs_rens]
          subst e
          refine run_driveS 80 ?_
          simp only [go_sem, Nat.reduceAdd, Nat.reduceSub, Nat.reduceLeDiff, Nat.reduceMul, Nat.reduceLT, Nat.reduceEqDiff, Int.reduceLT, Int.reduceLE, Int.reduceAdd, Int.reduceSub, Int.reduceMul, Int.reduceToNat, reduceIte, reduceCtorEq, Nat.reduceBEq, v5_13]
          refine run_call' rfl ?_
          simp only [go_sem, Nat.reduceAdd, Nat.reduceSub, Nat.reduceLeDiff, Nat.reduceMul, Nat.reduceLT, Nat.reduceEqDiff, Int.reduceLT, Int.reduceLE, Int.reduceAdd, Int.reduceSub, Int.reduceMul, Int.reduceToNat, reduceIte, reduceCtorEq, Nat.reduceBEq, calV]
          refine int' 1 (by decide) ?_
          refine run_driveS 80 ?_
          simp only [go_sem, Nat.reduceAdd, Nat.reduceSub, Nat.reduceLeDiff, Nat.reduceMul, Nat.reduceLT, Nat.reduceEqDiff, Int.reduceLT, Int.reduceLE, Int.reduceAdd, Int.reduceSub, Int.reduceMul, Int.reduceToNat, reduceIte, reduceCtorEq, Nat.reduceBEq, v5_14, v5_30]
          refine run_loop_eq v5_29.eq_1 ?_
          refine run_driveS 80 ?_
          simp only [go_sem, Nat.reduceAdd, Nat.reduceSub, Nat.reduceLeDiff, Nat.reduceMul, Nat.reduceLT, Nat.reduceEqDiff, Int.reduceLT, Int.reduceLE, Int.reduceAdd, Int.reduceSub, Int.reduceMul, Int.reduceToNat, reduceIte, reduceCtorEq, Nat.reduceBEq, v5_15]
          refine run_exit rfl ?_
          refine run_driveS 80 ?_
          simp only [go_sem, Nat.reduceAdd, Nat.reduceSub, Nat.reduceLeDiff, Nat.reduceMul, Nat.reduceLT, Nat.reduceEqDiff, Int.reduceLT, Int.reduceLE, Int.reduceAdd, Int.reduceSub, Int.reduceMul, Int.reduceToNat, reduceIte, reduceCtorEq, Nat.reduceBEq, v5_31]
          refine run_ret_drop Tryd.func5 res5 [0, 1] (.tup [.sl 1 0 (2 ^ 0) (.exact (2 ^ 0)), .int .i64 0]) _ rfl (by simp) ?_ ?_ ?_ (h0 (by omega) hz)
          · rw [show scs (2 ^ 0) (wf f 0) = lc 1 from rfl]
            simp only [go_sem, Nat.reduceAdd, Nat.reduceSub, Nat.reduceLeDiff, Nat.reduceMul, Nat.reduceLT, Nat.reduceEqDiff, Int.reduceLT, Int.reduceLE, Int.reduceAdd, Int.reduceSub, Int.reduceMul, Int.reduceToNat, reduceIte, reduceCtorEq, Nat.reduceBEq, hfit, lc_fit, scs_fit, fit, ren, gmap, lw_plain, true_or, or_true, hft]
          · simp [uniq, wrB]
          · simp only [go_sem, Nat.reduceAdd, Nat.reduceSub, Nat.reduceLeDiff, Nat.reduceMul, Nat.reduceLT, Nat.reduceEqDiff, Int.reduceLT, Int.reduceLE, Int.reduceAdd, Int.reduceSub, Int.reduceMul, Int.reduceToNat, reduceIte, reduceCtorEq, Nat.reduceBEq, r5, ren, rens, gmap, Nat.pow_zero]
        · simp only [go_sem, Nat.reduceAdd, Nat.reduceSub, Nat.reduceLeDiff, Nat.reduceMul, Nat.reduceLT, Nat.reduceEqDiff, Int.reduceLT, Int.reduceLE, Int.reduceAdd, Int.reduceSub, Int.reduceMul, Int.reduceToNat, reduceIte, reduceCtorEq, Nat.reduceBEq, ren, rens, gmap, puts, wrB, Bool.false_eq_true, if_false, renB, scs_rens]
          refine run_driveS 80 ?_
          simp only [go_sem, Nat.reduceAdd, Nat.reduceSub, Nat.reduceLeDiff, Nat.reduceMul, Nat.reduceLT, Nat.reduceEqDiff, Int.reduceLT, Int.reduceLE, Int.reduceAdd, Int.reduceSub, Int.reduceMul, Int.reduceToNat, reduceIte, reduceCtorEq, Nat.reduceBEq, v5_13]
          refine run_call' rfl ?_
          simp only [go_sem, Nat.reduceAdd, Nat.reduceSub, Nat.reduceLeDiff, Nat.reduceMul, Nat.reduceLT, Nat.reduceEqDiff, Int.reduceLT, Int.reduceLE, Int.reduceAdd, Int.reduceSub, Int.reduceMul, Int.reduceToNat, reduceIte, reduceCtorEq, Nat.reduceBEq, calV]
          refine int' 1 (by decide) ?_
          refine run_driveS 80 ?_
          simp only [go_sem, Nat.reduceAdd, Nat.reduceSub, Nat.reduceLeDiff, Nat.reduceMul, Nat.reduceLT, Nat.reduceEqDiff, Int.reduceLT, Int.reduceLE, Int.reduceAdd, Int.reduceSub, Int.reduceMul, Int.reduceToNat, reduceIte, reduceCtorEq, Nat.reduceBEq, v5_14, v5_30]
          refine run_rename [0, 1, 2] rfl (by simp) ?_ ?_ ?_ (wei_loop2 hG f hf rest hrest n (by omega) cap (K := [.c (.seq (.reg v5_31) .ret)]) ?_ n 0 (by omega))
          · unfold whb
            rw [show scs (2 ^ 0) (wf f 0) = lc 1 from rfl]
            simp only [go_sem, Nat.reduceAdd, Nat.reduceSub, Nat.reduceLeDiff, Nat.reduceMul, Nat.reduceLT, Nat.reduceEqDiff, Int.reduceLT, Int.reduceLE, Int.reduceAdd, Int.reduceSub, Int.reduceMul, Int.reduceToNat, reduceIte, reduceCtorEq, Nat.reduceBEq, hfit, lc_fit, scs_fit, fit, ren, gmap, lw_plain, true_or, or_true, hft]
          · simp [uniq, whb, wrB]
          · unfold wb
            simp only [go_sem, Nat.reduceAdd, Nat.reduceSub, Nat.reduceLeDiff, Nat.reduceMul, Nat.reduceLT, Nat.reduceEqDiff, Int.reduceLT, Int.reduceLE, Int.reduceAdd, Int.reduceSub, Int.reduceMul, Int.reduceToNat, reduceIte, reduceCtorEq, Nat.reduceBEq, hfit, lc_fit, scs_fit, fit, ren, gmap, lw_plain, true_or, or_true, Nat.pow_zero]
          · unfold wb whb
            refine run_driveS 80 ?_
            simp only [go_sem, Nat.reduceAdd, Nat.reduceSub, Nat.reduceLeDiff, Nat.reduceMul, Nat.reduceLT, Nat.reduceEqDiff, Int.reduceLT, Int.reduceLE, Int.reduceAdd, Int.reduceSub, Int.reduceMul, Int.reduceToNat, reduceIte, reduceCtorEq, Nat.reduceBEq, v5_31]
            refine run_ret_drop Tryd.func5 res5 [0, 2] (.tup [.sl 1 0 (2 ^ n) (.exact (2 ^ n)), .int .i64 0]) _ rfl (by simp) ?_ ?_ ?_ (h0 (by omega) hz)
            · simp only [go_sem, Nat.reduceAdd, Nat.reduceSub, Nat.reduceLeDiff, Nat.reduceMul, Nat.reduceLT, Nat.reduceEqDiff, Int.reduceLT, Int.reduceLE, Int.reduceAdd, Int.reduceSub, Int.reduceMul, Int.reduceToNat, reduceIte, reduceCtorEq, Nat.reduceBEq, hfit, lc_fit, scs_fit, fit, ren, gmap, lw_plain, true_or, or_true, hft]
            · simp [uniq, wrB]
            · simp only [go_sem, Nat.reduceAdd, Nat.reduceSub, Nat.reduceLeDiff, Nat.reduceMul, Nat.reduceLT, Nat.reduceEqDiff, Int.reduceLT, Int.reduceLE, Int.reduceAdd, Int.reduceSub, Int.reduceMul, Int.reduceToNat, reduceIte, reduceCtorEq, Nat.reduceBEq, r5, ren, rens, gmap]
end Go.Vs.Tryd
