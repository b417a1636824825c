/- T9: what the functions of the program answer, over the machine of plain values. -/
import Derived.Test.YtaalannjlomiiaaDoorT6
import Derived.Test.YtaalannjlomiiaaDoorM3
set_option linter.unusedVariables false
set_option linter.unusedSimpArgs false
namespace Go.Vs.Tryd
open Go.Proofs
variable {G : Nat → List V}
set_option linter.unusedSimpArgs false
attribute [local go_sem] List.length_append List.all_append ge_iff_le gt_iff_lt Int.natCast_nonneg Int.toNat_natCast Nat.mul_one b_and_ll b_shr_ll b_mul_ll b_add_ll b_or_ll b_shl_ll pick_ll pick_lc pick_bb driveS stopV drive stepV exo expo evs fillV isNil nilKind eqV eqL optA optM sliceAtV ev kn ldc stc splice appV srcV lenV setd wantV exitV rvs rv one List.length_cons List.length_nil List.cons_append List.nil_append List.append_nil List.replicate List.getD_cons_zero List.getD_cons_succ List.set_cons_zero List.set_cons_succ List.getElem?_cons_zero List.getElem?_cons_succ List.getElem?_nil List.take_succ_cons List.take_zero List.take_nil List.drop_succ_cons List.drop_zero List.drop_nil List.all_cons List.all_nil List.any_cons List.any_nil Bool.and_true Bool.true_and Bool.and_self Option.map_some Option.map_none Option.bind_some Option.some.injEq Nat.add_zero Nat.zero_add Int.toNat_zero Int.toNat_one Int.zero_add Int.add_zero if_true if_false ite_true ite_false and_true true_and and_self ne_eq not_false_eq_true not_true_eq_false decide_true decide_false Bool.false_eq_true Bool.not_true Bool.not_false beq_self_eq_true BEq.rfl Bool.not_eq_true Nat.le_refl Int.le_refl Nat.zero_le List.foldl List.map_cons List.map_nil Prod.mk.injEq Int.cast_ofNat_Int Int.zero_le_ofNat b_add_cc b_add_cl b_add_lc b_mul_cc b_mul_cl b_mul_lc b_sub_cc b_sub_cl b_sub_lc b_and_cc b_and_cl b_and_lc b_or_cc b_or_cl b_or_lc b_xor_cc b_xor_cl b_xor_lc b_andNot_cc b_andNot_cl b_andNot_lc b_shr_cc b_shr_cl b_shr_lc b_shl_cc b_shl_cl b_shl_lc b_lss b_leq b_gtr b_geq b_add_i b_sub_i b_mul_i beq_cc beq_cl beq_lc beq_ll b_quo_i b_rem_i neg_u64 wrap_i64 driveD stepD idsAt idOf maskH_nil restore_nil restore_mask List.filterMap_nil List.filterMap_cons VOp.looks VOp.makes exA cells_agg cells_int cells_bool cells_str cells_nilp cells_ptr cells_glob cells_nils cells_sl cells_nilf cells_fn cells_nili cells_ifc known_agg known_tup known_int known_bool known_str known_nilp known_ptr known_glob known_nils known_sl known_nilf known_fn known_nili known_ifc known_unk one_agg one_tup one_int one_bool one_str one_nilp one_ptr one_glob one_nils one_sl one_nilf one_fn one_nili one_ifc asK_int asN_int asB_bool asS_str asG_agg asT_tup
attribute [local go_sem ↓] lc_len lc_take lc_drop lc_known lc_one lc_rens lc_cells lw_known lw_agg lw_asG
set_option maxRecDepth 100000
set_option maxHeartbeats 1000000

theorem m_one : methV Tryd.prog 38 "One" = some 59 := by kernel_rfl
theorem m_zero : methV Tryd.prog 38 "IsZero" = some 11 := by kernel_rfl
theorem m_mul : methV Tryd.prog 38 "Mul" = some 14 := by kernel_rfl
theorem m_inv : methV Tryd.prog 38 "Invert" = some 58 := by kernel_rfl
theorem lc4 (f : Nat → Nat) (j : Nat) : (lc (f j)).length = 4 := rfl
theorem lcr (f : Nat → Nat) (g : Nat → Nat) (j : Nat) : rens g (lc (f j)) = lc (f j) := lc_rens _ g

/-- The scalars of a list. -/
def scs (n : Nat) (f : Nat → Nat) : List V := row n fun j => lc (f j)
theorem scs_len (n : Nat) (f : Nat → Nat) : (scs n f).length = n * 4 := row_len (lc4 f) n
theorem scs_get (n : Nat) (f : Nat → Nat) (rest : List V) {i : Nat} (h : i < n) : ((scs n f ++ rest).drop (i * 4)).take 4 = lc (f i) := row_get (lc4 f) rest h
theorem scs_get' (n : Nat) (f : Nat → Nat) {i : Nat} (h : i < n) : ((scs n f).drop (i * 4)).take 4 = lc (f i) := row_get' (lc4 f) h
theorem scs_set (n : Nat) (f f' : Nat → Nat) {i v : Nat} (h : i < n) (hv : f' i = v) (hf : ∀ j, j < n → j ≠ i → f j = f' j) : (scs n f).take (i * 4) ++ lc v ++ (scs n f).drop (i * 4 + 4) = scs n f' := by
  show splice (scs n f) (i * 4) (lc v) = _
  unfold scs
  rw [row_set (lc4 f) rfl h]
  refine row_congr fun j hj => ?_
  by_cases e : j = i
  · subst e; rw [upd_same, hv]
  · rw [upd_ne e, hf j hj e]
theorem scs_congr {n : Nat} {f f' : Nat → Nat} (h : ∀ j, j < n → f j = f' j) : scs n f = scs n f' := row_congr fun j hj => by rw [h j hj]
theorem scs_zero (n : Nat) : (List.replicate n [V.int .u64 (nl 0), V.int .u64 (nl 0), V.int .u64 (nl 0), V.int .u64 (nl 0)]).flatten = scs n fun _ => 0 := (row_zero _ n).trans (row_congr fun _ _ => lc_zero)
theorem scs_known (n : Nat) (f : Nat → Nat) : (scs n f).all V.known = true := row_all (fun j => lc_known _) n
theorem scs_one (n : Nat) (f : Nat → Nat) : (scs n f).all V.one = true := row_all (fun j => lc_one _) n
theorem scs_rens (n : Nat) (f g : Nat → Nat) : rens g (scs n f) = scs n f := row_rens (lcr f g) n
theorem scs_fit (n : Nat) (f g : Nat → Nat) : fit g (scs n f) (scs n f) := fit_same (scs_rens n f g)
theorem scs_in (n : Nat) (f : Nat → Nat) {i : Nat} (h : i < n) : (i * 4 + 4 ≤ (scs n f).length) = True := eq_true (by rw [scs_len]; exact row_in h)

/-- The product of those that are not 0, up to a place. -/
def pf (f : Nat → Nat) : Nat → Nat
  | 0 => 1
  | i + 1 => if f i % ell = 0 then pf f i else pf f i * f i % ell
theorem pf_lt (f : Nat → Nat) : ∀ i, pf f i < ell
  | 0 => show 1 < ell by decide
  | i + 1 => by
    unfold pf
    split
    · exact pf_lt f i
    · exact mod_lt' _
theorem pf_ne (f : Nat → Nat) : ∀ i, pf f i % ell ≠ 0
  | 0 => show 1 % ell ≠ 0 by decide
  | i + 1 => by
    unfold pf
    split
    · exact pf_ne f i
    · rename_i h
      intro e
      rw [Nat.mod_mod] at e
      rcases Pr.mul_zero_mod Pr.p8 e with h1 | h1
      · exact pf_ne f i h1
      · exact h h1
theorem linv_prod (x y : Nat) : linv (x * y % ell) = linv x * linv y % ell := by
  rw [linv_eq, linv_eq, linv_eq, ← Nat.pow_mod, Nat.mul_pow, Nat.mul_mod]
theorem inv_one {P A : Nat} (hP : P % ell ≠ 0) : P * linv (P * A % ell) % ell = linv A := by
  rw [linv_prod, mmod', ← Nat.mul_assoc, ← mmod, Nat.mul_comm P, linv_mul hP, Nat.one_mul, Nat.mod_eq_of_lt (linv_lt A)]
theorem inv_left {P A : Nat} (hA : A % ell ≠ 0) : linv (P * A % ell) * A % ell = linv P := by
  rw [linv_prod, mmod, Nat.mul_assoc, ← mmod', linv_mul hA, Nat.mul_one, Nat.mod_eq_of_lt (linv_lt P)]

def ia1 (n : Nat) (cap : Cap) (i : Nat) : List V := [.sl 0 0 n cap, .unk, .nils, .sl 1 0 n (.exact n), .ptr 2 0] ++ List.replicate 16 .unk ++ [.sl 0 0 n cap, .int .i64 n, .int .i64 i] ++ List.replicate 55 .unk
def ih1 (f : Nat → Nat) (rest : List V) (n i : Nat) : Heap := [some ⟨.ro, scs n f ++ rest⟩, some ⟨.rw, scs n fun j => if j < i then pf f j else 0⟩, some ⟨.rw, lc (pf f i)⟩]
def ia2 (n : Nat) (cap : Cap) (m : Nat) : List V := [.sl 0 0 n cap, .unk, .nils, .sl 1 0 n (.exact n), .unk, .unk, .unk, .ptr 2 0, .int .i64 ((m : Int) - 1)] ++ List.replicate 70 .unk
noncomputable def ih2 (f : Nat → Nat) (rest : List V) (n m : Nat) : Heap := [some ⟨.ro, scs n f ++ rest⟩, some ⟨.rw, scs n fun j => if j < m then pf f j else linv (f j)⟩, some ⟨.rw, lc (linv (pf f m))⟩]

theorem inv_loop1 (hG : G 0 = tbl) (f : Nat → Nat) (hf : ∀ j, f j < 115792089237316195423570985008687907853269984665640564039457584007913129639936) (rest : List V) (hrest : ∀ g, rens g rest = rest) (n : Nat) (hn : n < 1000000) (cap : Cap) {Q : V → Heap → Prop} {K : List TI}
    (hK : Run Tryd.prog G 12 1 Q (K, ⟨ia1 n cap n, ih1 f rest n n⟩)) : ∀ k i, i + k = n → Run Tryd.prog G 12 1 Q (.l v12_13 :: .b 0 :: K, ⟨ia1 n cap i, ih1 f rest n i⟩)
  | 0, i, h => by
    obtain rfl : i = n := by omega
    unfold ia1 ih1
    have h0 : ((i : Int) < (i : Int)) = False := eq_false (by omega)
    have hft : ∀ g, fit g (scs i f ++ rest) (scs i f ++ rest) := fun g => fit_same (by rw [rens_append, scs_rens, hrest])
    refine run_loop_eq v12_13.eq_1 ?_
    refine run_driveS 80 ?_
    simp only [go_sem, Nat.reduceAdd, Nat.reduceSub, Nat.reduceLeDiff, Nat.reduceMul, Nat.reduceLT, Nat.reduceEqDiff, Int.reduceLT, Int.reduceLE, Int.reduceAdd, Int.reduceSub, Int.reduceMul, Int.reduceToNat, reduceIte, reduceCtorEq, Nat.reduceBEq, v12_6, h0]
    refine run_exit rfl ?_
    refine run_rename [0, 1, 2] rfl (by simp) ?_ ?_ ?_ hK
    · unfold ih1
      simp only [go_sem, Nat.reduceAdd, Nat.reduceSub, Nat.reduceLeDiff, Nat.reduceMul, Nat.reduceLT, Nat.reduceEqDiff, Int.reduceLT, Int.reduceLE, Int.reduceAdd, Int.reduceSub, Int.reduceMul, Int.reduceToNat, reduceIte, reduceCtorEq, Nat.reduceBEq, hfit, lc_fit, scs_fit, fit, ren, gmap, lw_plain, true_or, or_true, hft]
    · simp [uniq, ih1, wrB]
    · unfold ia1; simp only [go_sem, Nat.reduceAdd, Nat.reduceSub, Nat.reduceLeDiff, Nat.reduceMul, Nat.reduceLT, Nat.reduceEqDiff, Int.reduceLT, Int.reduceLE, Int.reduceAdd, Int.reduceSub, Int.reduceMul, Int.reduceToNat, reduceIte, reduceCtorEq, Nat.reduceBEq, fit, ren, gmap, lw_plain, true_or, or_true]
  | k + 1, i, h => by
    have ih := inv_loop1 hG f hf rest hrest n hn cap hK k (i + 1) (by omega)
    unfold ia1 ih1
    have h0 : ((i : Int) < (n : Int)) = True := eq_true (by omega)
    have hg := scs_get n f rest (i := i) (by omega)
    have hin := scs_in n (fun j => if j < i then pf f j else 0) (i := i) (by omega)
    have hset := scs_set n (fun j => if j < i then pf f j else 0) (fun j => if j < i + 1 then pf f j else 0) (i := i) (v := pf f i) (by omega) (by rw [if_pos (by omega)]) (fun j _ hj => by by_cases h1 : j < i <;> simp [h1] <;> omega)
    have hw : IntKind.i64.wrap ((i : Int) + 1) = ((i + 1 : Nat) : Int) := by rw [wrap_i64 (by omega) (by omega)]; omega
    have hft : ∀ g, fit g (scs n f ++ rest) (scs n f ++ rest) := fun g => fit_same (by rw [rens_append, scs_rens, hrest])
    refine run_loop_eq v12_13.eq_1 ?_
    refine run_driveS 80 ?_
    simp only [go_sem, Nat.reduceAdd, Nat.reduceSub, Nat.reduceLeDiff, Nat.reduceMul, Nat.reduceLT, Nat.reduceEqDiff, Int.reduceLT, Int.reduceLE, Int.reduceAdd, Int.reduceSub, Int.reduceMul, Int.reduceToNat, reduceIte, reduceCtorEq, Nat.reduceBEq, v12_6, v12_11, v12_7, v12_8, v12_9, h0, hg, hin, hset]
    refine run_call' rfl ?_
    simp only [go_sem, Nat.reduceAdd, Nat.reduceSub, Nat.reduceLeDiff, Nat.reduceMul, Nat.reduceLT, Nat.reduceEqDiff, Int.reduceLT, Int.reduceLE, Int.reduceAdd, Int.reduceSub, Int.reduceMul, Int.reduceToNat, reduceIte, reduceCtorEq, Nat.reduceBEq, calV, m_zero]
    refine is_zero' hG _ (hf i) ?_
    refine run_driveS 80 ?_
    simp only [go_sem, Nat.reduceAdd, Nat.reduceSub, Nat.reduceLeDiff, Nat.reduceMul, Nat.reduceLT, Nat.reduceEqDiff, Int.reduceLT, Int.reduceLE, Int.reduceAdd, Int.reduceSub, Int.reduceMul, Int.reduceToNat, reduceIte, reduceCtorEq, Nat.reduceBEq]
    by_cases hz : f i % ell = 0
    · refine run_cond_f (by simp only [go_sem, Nat.reduceAdd, Nat.reduceSub, Nat.reduceLeDiff, Nat.reduceMul, Nat.reduceLT, Nat.reduceEqDiff, Int.reduceLT, Int.reduceLE, Int.reduceAdd, Int.reduceSub, Int.reduceMul, Int.reduceToNat, reduceIte, reduceCtorEq, Nat.reduceBEq, decide_eq_true hz]) ?_
      refine run_driveS 80 ?_
      simp only [go_sem, Nat.reduceAdd, Nat.reduceSub, Nat.reduceLeDiff, Nat.reduceMul, Nat.reduceLT, Nat.reduceEqDiff, Int.reduceLT, Int.reduceLE, Int.reduceAdd, Int.reduceSub, Int.reduceMul, Int.reduceToNat, reduceIte, reduceCtorEq, Nat.reduceBEq, v12_12, hw]
      have e : pf f (i + 1) = pf f i := if_pos hz
      refine run_rename [0, 1, 2] rfl (by simp) ?_ ?_ ?_ ih
      · unfold ih1; rw [e]
        simp only [go_sem, Nat.reduceAdd, Nat.reduceSub, Nat.reduceLeDiff, Nat.reduceMul, Nat.reduceLT, Nat.reduceEqDiff, Int.reduceLT, Int.reduceLE, Int.reduceAdd, Int.reduceSub, Int.reduceMul, Int.reduceToNat, reduceIte, reduceCtorEq, Nat.reduceBEq, hfit, lc_fit, scs_fit, fit, ren, gmap, lw_plain, true_or, or_true, hft]
      · simp [uniq, ih1, wrB]
      · unfold ia1; simp only [go_sem, Nat.reduceAdd, Nat.reduceSub, Nat.reduceLeDiff, Nat.reduceMul, Nat.reduceLT, Nat.reduceEqDiff, Int.reduceLT, Int.reduceLE, Int.reduceAdd, Int.reduceSub, Int.reduceMul, Int.reduceToNat, reduceIte, reduceCtorEq, Nat.reduceBEq, fit, ren, gmap, lw_plain, true_or, or_true]
    · refine run_cond_t (by simp only [go_sem, Nat.reduceAdd, Nat.reduceSub, Nat.reduceLeDiff, Nat.reduceMul, Nat.reduceLT, Nat.reduceEqDiff, Int.reduceLT, Int.reduceLE, Int.reduceAdd, Int.reduceSub, Int.reduceMul, Int.reduceToNat, reduceIte, reduceCtorEq, Nat.reduceBEq, decide_eq_false hz]) ?_
      refine run_driveS 80 ?_
      simp only [go_sem, Nat.reduceAdd, Nat.reduceSub, Nat.reduceLeDiff, Nat.reduceMul, Nat.reduceLT, Nat.reduceEqDiff, Int.reduceLT, Int.reduceLE, Int.reduceAdd, Int.reduceSub, Int.reduceMul, Int.reduceToNat, reduceIte, reduceCtorEq, Nat.reduceBEq, v12_10]
      refine run_call' rfl ?_
      simp only [go_sem, Nat.reduceAdd, Nat.reduceSub, Nat.reduceLeDiff, Nat.reduceMul, Nat.reduceLT, Nat.reduceEqDiff, Int.reduceLT, Int.reduceLE, Int.reduceAdd, Int.reduceSub, Int.reduceMul, Int.reduceToNat, reduceIte, reduceCtorEq, Nat.reduceBEq, calV, m_mul]
      refine mul' hG _ _ (Nat.lt_trans (pf_lt f i) ell_lt) (hf i) ?_
      refine run_driveS 80 ?_
      simp only [go_sem, Nat.reduceAdd, Nat.reduceSub, Nat.reduceLeDiff, Nat.reduceMul, Nat.reduceLT, Nat.reduceEqDiff, Int.reduceLT, Int.reduceLE, Int.reduceAdd, Int.reduceSub, Int.reduceMul, Int.reduceToNat, reduceIte, reduceCtorEq, Nat.reduceBEq, v12_12, hw]
      have e : pf f (i + 1) = pf f i * f i % ell := if_neg hz
      rw [← e]
      refine run_rename [0, 1, 2] rfl (by simp) ?_ ?_ ?_ ih
      · unfold ih1
        simp only [go_sem, Nat.reduceAdd, Nat.reduceSub, Nat.reduceLeDiff, Nat.reduceMul, Nat.reduceLT, Nat.reduceEqDiff, Int.reduceLT, Int.reduceLE, Int.reduceAdd, Int.reduceSub, Int.reduceMul, Int.reduceToNat, reduceIte, reduceCtorEq, Nat.reduceBEq, hfit, lc_fit, scs_fit, fit, ren, gmap, lw_plain, true_or, or_true, hft]
      · simp [uniq, ih1, wrB]
      · unfold ia1; simp only [go_sem, Nat.reduceAdd, Nat.reduceSub, Nat.reduceLeDiff, Nat.reduceMul, Nat.reduceLT, Nat.reduceEqDiff, Int.reduceLT, Int.reduceLE, Int.reduceAdd, Int.reduceSub, Int.reduceMul, Int.reduceToNat, reduceIte, reduceCtorEq, Nat.reduceBEq, fit, ren, gmap, lw_plain, true_or, or_true]

theorem inv_loop2 (hG : G 0 = tbl) (f : Nat → Nat) (hf : ∀ j, f j < 115792089237316195423570985008687907853269984665640564039457584007913129639936) (rest : List V) (hrest : ∀ g, rens g rest = rest) (n : Nat) (hn : n < 1000000) (cap : Cap) {Q : V → Heap → Prop} {K : List TI}
    (hK : Run Tryd.prog G 12 1 Q (K, ⟨ia2 n cap 0, ih2 f rest n 0⟩)) : ∀ m, m ≤ n → Run Tryd.prog G 12 1 Q (.l v12_25 :: .b 2 :: K, ⟨ia2 n cap m, ih2 f rest n m⟩)
  | 0, h => by
    unfold ia2 ih2
    have hft : ∀ g, fit g (scs n f ++ rest) (scs n f ++ rest) := fun g => fit_same (by rw [rens_append, scs_rens, hrest])
    refine run_loop_eq v12_25.eq_1 ?_
    refine run_driveS 80 ?_
    simp only [go_sem, Nat.reduceAdd, Nat.reduceSub, Nat.reduceLeDiff, Nat.reduceMul, Nat.reduceLT, Nat.reduceEqDiff, Int.reduceLT, Int.reduceLE, Int.reduceAdd, Int.reduceSub, Int.reduceMul, Int.reduceToNat, reduceIte, reduceCtorEq, Nat.reduceBEq, v12_17]
    refine run_exit rfl ?_
    refine run_rename [0, 1, 2] rfl (by simp) ?_ ?_ ?_ hK
    · unfold ih2
      simp only [go_sem, Nat.reduceAdd, Nat.reduceSub, Nat.reduceLeDiff, Nat.reduceMul, Nat.reduceLT, Nat.reduceEqDiff, Int.reduceLT, Int.reduceLE, Int.reduceAdd, Int.reduceSub, Int.reduceMul, Int.reduceToNat, reduceIte, reduceCtorEq, Nat.reduceBEq, hfit, lc_fit, scs_fit, fit, ren, gmap, lw_plain, true_or, or_true, hft]
    · simp [uniq, ih2, wrB]
    · unfold ia2; simp only [go_sem, Nat.reduceAdd, Nat.reduceSub, Nat.reduceLeDiff, Nat.reduceMul, Nat.reduceLT, Nat.reduceEqDiff, Int.reduceLT, Int.reduceLE, Int.reduceAdd, Int.reduceSub, Int.reduceMul, Int.reduceToNat, reduceIte, reduceCtorEq, Nat.reduceBEq, fit, ren, gmap, lw_plain, true_or, or_true]
  | m + 1, h => by
    have ih := inv_loop2 hG f hf rest hrest n hn cap hK m (by omega)
    unfold ia2 ih2
    rw [show ((m + 1 : Nat) : Int) - 1 = (m : Int) by omega]
    have h0 : ((m : Int) < (n : Int)) = True := eq_true (by omega)
    have hg := scs_get n f rest (i := m) (by omega)
    have hg2 := scs_get' n (fun j => if j < m + 1 then pf f j else linv (f j)) (i := m) (by omega)
    rw [if_pos (by omega)] at hg2
    have hin := scs_in n (fun j => if j < m + 1 then pf f j else linv (f j)) (i := m) (by omega)
    have hset := scs_set n (fun j => if j < m + 1 then pf f j else linv (f j)) (fun j => if j < m then pf f j else linv (f j)) (i := m) (v := linv (f m)) (by omega) (by rw [if_neg (by omega)]) (fun j _ hj => by by_cases h1 : j < m + 1 <;> simp [h1] <;> omega)
    have hw : IntKind.i64.wrap ((m : Int) - 1) = (m : Int) - 1 := wrap_i64 (by omega) (by omega)
    have hft : ∀ g, fit g (scs n f ++ rest) (scs n f ++ rest) := fun g => fit_same (by rw [rens_append, scs_rens, hrest])
    refine run_loop_eq v12_25.eq_1 ?_
    refine run_driveS 80 ?_
    simp only [go_sem, Nat.reduceAdd, Nat.reduceSub, Nat.reduceLeDiff, Nat.reduceMul, Nat.reduceLT, Nat.reduceEqDiff, Int.reduceLT, Int.reduceLE, Int.reduceAdd, Int.reduceSub, Int.reduceMul, Int.reduceToNat, reduceIte, reduceCtorEq, Nat.reduceBEq, v12_17, v12_23, v12_18, h0, hg]
    refine run_call' rfl ?_
    simp only [go_sem, Nat.reduceAdd, Nat.reduceSub, Nat.reduceLeDiff, Nat.reduceMul, Nat.reduceLT, Nat.reduceEqDiff, Int.reduceLT, Int.reduceLE, Int.reduceAdd, Int.reduceSub, Int.reduceMul, Int.reduceToNat, reduceIte, reduceCtorEq, Nat.reduceBEq, calV, m_zero]
    refine is_zero' hG _ (hf m) ?_
    refine run_driveS 80 ?_
    simp only [go_sem, Nat.reduceAdd, Nat.reduceSub, Nat.reduceLeDiff, Nat.reduceMul, Nat.reduceLT, Nat.reduceEqDiff, Int.reduceLT, Int.reduceLE, Int.reduceAdd, Int.reduceSub, Int.reduceMul, Int.reduceToNat, reduceIte, reduceCtorEq, Nat.reduceBEq]
    by_cases hz : f m % ell = 0
    · refine run_cond_t (by simp only [go_sem, Nat.reduceAdd, Nat.reduceSub, Nat.reduceLeDiff, Nat.reduceMul, Nat.reduceLT, Nat.reduceEqDiff, Int.reduceLT, Int.reduceLE, Int.reduceAdd, Int.reduceSub, Int.reduceMul, Int.reduceToNat, reduceIte, reduceCtorEq, Nat.reduceBEq, decide_eq_true hz]) ?_
      have e : pf f (m + 1) = pf f m := if_pos hz
      rw [linv_zero hz] at hset
      refine run_driveS 80 ?_
      simp only [go_sem, Nat.reduceAdd, Nat.reduceSub, Nat.reduceLeDiff, Nat.reduceMul, Nat.reduceLT, Nat.reduceEqDiff, Int.reduceLT, Int.reduceLE, Int.reduceAdd, Int.reduceSub, Int.reduceMul, Int.reduceToNat, reduceIte, reduceCtorEq, Nat.reduceBEq, v12_19, v12_20, h0, hin, lc_zero, hset]
      refine run_exit rfl ?_
      refine run_driveS 80 ?_
      simp only [go_sem, Nat.reduceAdd, Nat.reduceSub, Nat.reduceLeDiff, Nat.reduceMul, Nat.reduceLT, Nat.reduceEqDiff, Int.reduceLT, Int.reduceLE, Int.reduceAdd, Int.reduceSub, Int.reduceMul, Int.reduceToNat, reduceIte, reduceCtorEq, Nat.reduceBEq, v12_24, hw]
      rw [e]
      refine run_rename [0, 1, 2] rfl (by simp) ?_ ?_ ?_ ih
      · unfold ih2
        simp only [go_sem, Nat.reduceAdd, Nat.reduceSub, Nat.reduceLeDiff, Nat.reduceMul, Nat.reduceLT, Nat.reduceEqDiff, Int.reduceLT, Int.reduceLE, Int.reduceAdd, Int.reduceSub, Int.reduceMul, Int.reduceToNat, reduceIte, reduceCtorEq, Nat.reduceBEq, hfit, lc_fit, scs_fit, fit, ren, gmap, lw_plain, true_or, or_true, hft]
      · simp [uniq, ih2, wrB]
      · unfold ia2
        simp only [go_sem, Nat.reduceAdd, Nat.reduceSub, Nat.reduceLeDiff, Nat.reduceMul, Nat.reduceLT, Nat.reduceEqDiff, Int.reduceLT, Int.reduceLE, Int.reduceAdd, Int.reduceSub, Int.reduceMul, Int.reduceToNat, reduceIte, reduceCtorEq, Nat.reduceBEq, hfit, lc_fit, scs_fit, fit, ren, gmap, lw_plain, true_or, or_true]
    · refine run_cond_f (by simp only [go_sem, Nat.reduceAdd, Nat.reduceSub, Nat.reduceLeDiff, Nat.reduceMul, Nat.reduceLT, Nat.reduceEqDiff, Int.reduceLT, Int.reduceLE, Int.reduceAdd, Int.reduceSub, Int.reduceMul, Int.reduceToNat, reduceIte, reduceCtorEq, Nat.reduceBEq, decide_eq_false hz]) ?_
      refine run_driveS 80 ?_
      simp only [go_sem, Nat.reduceAdd, Nat.reduceSub, Nat.reduceLeDiff, Nat.reduceMul, Nat.reduceLT, Nat.reduceEqDiff, Int.reduceLT, Int.reduceLE, Int.reduceAdd, Int.reduceSub, Int.reduceMul, Int.reduceToNat, reduceIte, reduceCtorEq, Nat.reduceBEq]
      have e : pf f (m + 1) = pf f m * f m % ell := if_neg hz
      refine run_drw (by kernel_rfl) ?_
      refine drun_drive 40 (p := (_, _)) ?_
      simp only [go_sem, Nat.reduceAdd, Nat.reduceSub, Nat.reduceLeDiff, Nat.reduceMul, Nat.reduceLT, Nat.reduceEqDiff, Int.reduceLT, Int.reduceLE, Int.reduceAdd, Int.reduceSub, Int.reduceMul, Int.reduceToNat, reduceIte, reduceCtorEq, Nat.reduceBEq, v12_21, h0, hg2]
      refine drun_call' ?_
      simp only [go_sem, Nat.reduceAdd, Nat.reduceSub, Nat.reduceLeDiff, Nat.reduceMul, Nat.reduceLT, Nat.reduceEqDiff, Int.reduceLT, Int.reduceLE, Int.reduceAdd, Int.reduceSub, Int.reduceMul, Int.reduceToNat, reduceIte, reduceCtorEq, Nat.reduceBEq, calV, m_mul]
      refine mul' hG _ _ (Nat.lt_trans (pf_lt f m) ell_lt) (Nat.lt_trans (linv_lt _) ell_lt) ?_
      rw [e, inv_one (pf_ne f m)]
      refine drun_drive 40 (p := (_, _)) ?_
      simp only [go_sem, Nat.reduceAdd, Nat.reduceSub, Nat.reduceLeDiff, Nat.reduceMul, Nat.reduceLT, Nat.reduceEqDiff, Int.reduceLT, Int.reduceLE, Int.reduceAdd, Int.reduceSub, Int.reduceMul, Int.reduceToNat, reduceIte, reduceCtorEq, Nat.reduceBEq, hin, hset, h0]
      refine drun_end ?_
      refine run_drw (by kernel_rfl) ?_
      refine drun_drive 40 (p := (_, _)) ?_
      simp only [go_sem, Nat.reduceAdd, Nat.reduceSub, Nat.reduceLeDiff, Nat.reduceMul, Nat.reduceLT, Nat.reduceEqDiff, Int.reduceLT, Int.reduceLE, Int.reduceAdd, Int.reduceSub, Int.reduceMul, Int.reduceToNat, reduceIte, reduceCtorEq, Nat.reduceBEq, v12_22, h0, hg]
      refine drun_call' ?_
      simp only [go_sem, Nat.reduceAdd, Nat.reduceSub, Nat.reduceLeDiff, Nat.reduceMul, Nat.reduceLT, Nat.reduceEqDiff, Int.reduceLT, Int.reduceLE, Int.reduceAdd, Int.reduceSub, Int.reduceMul, Int.reduceToNat, reduceIte, reduceCtorEq, Nat.reduceBEq, calV, m_mul]
      refine mul' hG _ _ (Nat.lt_trans (linv_lt _) ell_lt) (hf m) ?_
      rw [inv_left hz]
      refine drun_drive 40 (p := (_, _)) ?_
      simp only [go_sem, Nat.reduceAdd, Nat.reduceSub, Nat.reduceLeDiff, Nat.reduceMul, Nat.reduceLT, Nat.reduceEqDiff, Int.reduceLT, Int.reduceLE, Int.reduceAdd, Int.reduceSub, Int.reduceMul, Int.reduceToNat, reduceIte, reduceCtorEq, Nat.reduceBEq]
      refine drun_end ?_
      refine run_driveS 80 ?_
      simp only [go_sem, Nat.reduceAdd, Nat.reduceSub, Nat.reduceLeDiff, Nat.reduceMul, Nat.reduceLT, Nat.reduceEqDiff, Int.reduceLT, Int.reduceLE, Int.reduceAdd, Int.reduceSub, Int.reduceMul, Int.reduceToNat, reduceIte, reduceCtorEq, Nat.reduceBEq, v12_24, hw]
      refine run_rename [0, 1, 2] rfl (by simp) ?_ ?_ ?_ ih
      · unfold ih2
        simp only [go_sem, Nat.reduceAdd, Nat.reduceSub, Nat.reduceLeDiff, Nat.reduceMul, Nat.reduceLT, Nat.reduceEqDiff, Int.reduceLT, Int.reduceLE, Int.reduceAdd, Int.reduceSub, Int.reduceMul, Int.reduceToNat, reduceIte, reduceCtorEq, Nat.reduceBEq, hfit, lc_fit, scs_fit, fit, ren, gmap, lw_plain, true_or, or_true, hft]
      · simp [uniq, ih2, wrB]
      · unfold ia2
        simp only [go_sem, Nat.reduceAdd, Nat.reduceSub, Nat.reduceLeDiff, Nat.reduceMul, Nat.reduceLT, Nat.reduceEqDiff, Int.reduceLT, Int.reduceLE, Int.reduceAdd, Int.reduceSub, Int.reduceMul, Int.reduceToNat, reduceIte, reduceCtorEq, Nat.reduceBEq, hfit, lc_fit, scs_fit, fit, ren, gmap, lw_plain, true_or, or_true]

theorem invert_all (hG : G 0 = tbl) (f : Nat → Nat) (hf : ∀ j, f j < 115792089237316195423570985008687907853269984665640564039457584007913129639936) (rest : List V) (hrest : ∀ g, rens g rest = rest) (n : Nat) (hn : n < 1000000) (cap : Cap) (Q : V → Heap → Prop)
    (hQ0 : n = 0 → Q .nils [some ⟨.ro, scs n f ++ rest⟩]) (hQ : 0 < n → Q (.sl 1 0 n (.exact n)) [some ⟨.ro, scs n f ++ rest⟩, some ⟨.rw, scs n fun j => linv (f j)⟩]) : VCall Tryd.prog G 12 [.sl 0 0 n cap] [some ⟨.ro, scs n f ++ rest⟩] Q := by
  refine vcall_body Tryd.func12 nm12 code12 nt12 ?_
  have hft : ∀ g, fit g (scs n f ++ rest) (scs n f ++ rest) := fun g => fit_same (by rw [rens_append, scs_rens, hrest])
  refine run_driveS 80 ?_
  simp only [go_sem, Nat.reduceAdd, Nat.reduceSub, Nat.reduceLeDiff, Nat.reduceMul, Nat.reduceLT, Nat.reduceEqDiff, Int.reduceLT, Int.reduceLE, Int.reduceAdd, Int.reduceSub, Int.reduceMul, Int.reduceToNat, reduceIte, reduceCtorEq, Nat.reduceBEq, v12, v12_0, v12_1]
  by_cases h0 : n = 0
  · subst h0
    refine run_cond_t (by rfl) ?_
    refine run_driveS 80 ?_
    simp only [go_sem, Nat.reduceAdd, Nat.reduceSub, Nat.reduceLeDiff, Nat.reduceMul, Nat.reduceLT, Nat.reduceEqDiff, Int.reduceLT, Int.reduceLE, Int.reduceAdd, Int.reduceSub, Int.reduceMul, Int.reduceToNat, reduceIte, reduceCtorEq, Nat.reduceBEq, v12_2]
    refine run_ret' Tryd.func12 res12 ?_
    simp only [go_sem, Nat.reduceAdd, Nat.reduceSub, Nat.reduceLeDiff, Nat.reduceMul, Nat.reduceLT, Nat.reduceEqDiff, Int.reduceLT, Int.reduceLE, Int.reduceAdd, Int.reduceSub, Int.reduceMul, Int.reduceToNat, reduceIte, reduceCtorEq, Nat.reduceBEq, r12]
    exact hQ0 rfl
  · have hz : ((n : Int) == 0) = false := by
      rw [beq_eq_false_iff_ne]
      omega
    refine run_cond_f (by simp only [go_sem, Nat.reduceAdd, Nat.reduceSub, Nat.reduceLeDiff, Nat.reduceMul, Nat.reduceLT, Nat.reduceEqDiff, Int.reduceLT, Int.reduceLE, Int.reduceAdd, Int.reduceSub, Int.reduceMul, Int.reduceToNat, reduceIte, reduceCtorEq, Nat.reduceBEq, hz]) ?_
    have h1 : ((0 : Int) < (n : Int)) = True := eq_true (by omega)
    have h2 : ((32 : Int) * (n : Int) ≤ 281474976710656) = True := eq_true (by omega)
    have h3 : ((n : Int) ≤ 9223372036854775807) = True := eq_true (by omega)
    have hg0 := scs_get n f rest (i := 0) (by omega)
    rw [Nat.zero_mul, List.drop_zero] at hg0
    refine run_driveS 80 ?_
    simp only [go_sem, Nat.reduceAdd, Nat.reduceSub, Nat.reduceLeDiff, Nat.reduceMul, Nat.reduceLT, Nat.reduceEqDiff, Int.reduceLT, Int.reduceLE, Int.reduceAdd, Int.reduceSub, Int.reduceMul, Int.reduceToNat, reduceIte, reduceCtorEq, Nat.reduceBEq, v12_3, v12_4, scs_zero, h1, h2, h3, hg0]
    refine run_call' rfl ?_
    simp only [go_sem, Nat.reduceAdd, Nat.reduceSub, Nat.reduceLeDiff, Nat.reduceMul, Nat.reduceLT, Nat.reduceEqDiff, Int.reduceLT, Int.reduceLE, Int.reduceAdd, Int.reduceSub, Int.reduceMul, Int.reduceToNat, reduceIte, reduceCtorEq, Nat.reduceBEq, calV, m_one]
    refine one' _ ?_
    refine run_driveS 80 ?_
    simp only [go_sem, Nat.reduceAdd, Nat.reduceSub, Nat.reduceLeDiff, Nat.reduceMul, Nat.reduceLT, Nat.reduceEqDiff, Int.reduceLT, Int.reduceLE, Int.reduceAdd, Int.reduceSub, Int.reduceMul, Int.reduceToNat, reduceIte, reduceCtorEq, Nat.reduceBEq, v12_5, v12_14]
    refine run_rename [0, 1, 2] rfl (by simp) ?_ ?_ ?_ (inv_loop1 hG f hf rest hrest n hn cap (K := [.c (.seq (.reg v12_15) (.seq (.seq (.reg v12_16) (.block 2 v12_26)) (.seq (.reg v12_27) .ret)))]) ?_ n 0 (by omega))
    · unfold ih1
      rw [show (scs n fun j => if j < 0 then pf f j else 0) = scs n fun _ => 0 from scs_congr fun j _ => if_neg (Nat.not_lt_zero j), show pf f 0 = 1 from rfl]
      simp only [go_sem, Nat.reduceAdd, Nat.reduceSub, Nat.reduceLeDiff, Nat.reduceMul, Nat.reduceLT, Nat.reduceEqDiff, Int.reduceLT, Int.reduceLE, Int.reduceAdd, Int.reduceSub, Int.reduceMul, Int.reduceToNat, reduceIte, reduceCtorEq, Nat.reduceBEq, hfit, lc_fit, scs_fit, fit, ren, gmap, lw_plain, true_or, or_true, hft]
    · simp [uniq, ih1, wrB]
    · unfold ia1
      simp only [go_sem, Nat.reduceAdd, Nat.reduceSub, Nat.reduceLeDiff, Nat.reduceMul, Nat.reduceLT, Nat.reduceEqDiff, Int.reduceLT, Int.reduceLE, Int.reduceAdd, Int.reduceSub, Int.reduceMul, Int.reduceToNat, reduceIte, reduceCtorEq, Nat.reduceBEq, hfit, lc_fit, scs_fit, fit, ren, gmap, lw_plain, true_or, or_true]
    · unfold ia1 ih1
      refine run_driveS 80 ?_
      simp only [go_sem, Nat.reduceAdd, Nat.reduceSub, Nat.reduceLeDiff, Nat.reduceMul, Nat.reduceLT, Nat.reduceEqDiff, Int.reduceLT, Int.reduceLE, Int.reduceAdd, Int.reduceSub, Int.reduceMul, Int.reduceToNat, reduceIte, reduceCtorEq, Nat.reduceBEq, v12_15]
      refine run_call' rfl ?_
      simp only [go_sem, Nat.reduceAdd, Nat.reduceSub, Nat.reduceLeDiff, Nat.reduceMul, Nat.reduceLT, Nat.reduceEqDiff, Int.reduceLT, Int.reduceLE, Int.reduceAdd, Int.reduceSub, Int.reduceMul, Int.reduceToNat, reduceIte, reduceCtorEq, Nat.reduceBEq, calV, m_inv]
      refine invert' hG _ (Nat.lt_trans (pf_lt f n) ell_lt) ?_
      have hw : IntKind.i64.wrap ((n : Int) - 1) = (n : Int) - 1 := wrap_i64 (by omega) (by omega)
      refine run_driveS 80 ?_
      simp only [go_sem, Nat.reduceAdd, Nat.reduceSub, Nat.reduceLeDiff, Nat.reduceMul, Nat.reduceLT, Nat.reduceEqDiff, Int.reduceLT, Int.reduceLE, Int.reduceAdd, Int.reduceSub, Int.reduceMul, Int.reduceToNat, reduceIte, reduceCtorEq, Nat.reduceBEq, v12_16, v12_26, hw]
      refine run_rename [0, 1, 3] rfl (by simp) ?_ ?_ ?_ (inv_loop2 hG f hf rest hrest n hn cap (K := [.c (.seq (.reg v12_27) .ret)]) ?_ n (Nat.le_refl n))
      · unfold ih2
        rw [show (scs n fun j => if j < n then pf f j else linv (f j)) = scs n fun j => if j < n then pf f j else 0 from scs_congr fun j hj => by rw [if_pos hj, if_pos hj]]
        simp only [go_sem, Nat.reduceAdd, Nat.reduceSub, Nat.reduceLeDiff, Nat.reduceMul, Nat.reduceLT, Nat.reduceEqDiff, Int.reduceLT, Int.reduceLE, Int.reduceAdd, Int.reduceSub, Int.reduceMul, Int.reduceToNat, reduceIte, reduceCtorEq, Nat.reduceBEq, hfit, lc_fit, scs_fit, fit, ren, gmap, lw_plain, true_or, or_true, hft]
      · simp [uniq, ih2, wrB]
      · unfold ia2
        simp only [go_sem, Nat.reduceAdd, Nat.reduceSub, Nat.reduceLeDiff, Nat.reduceMul, Nat.reduceLT, Nat.reduceEqDiff, Int.reduceLT, Int.reduceLE, Int.reduceAdd, Int.reduceSub, Int.reduceMul, Int.reduceToNat, reduceIte, reduceCtorEq, Nat.reduceBEq, hfit, lc_fit, scs_fit, fit, ren, gmap, lw_plain, true_or, or_true]
      · unfold ia2 ih2
        rw [show (scs n fun j => if j < 0 then pf f j else linv (f j)) = scs n fun j => linv (f j) from scs_congr fun j _ => if_neg (Nat.not_lt_zero j)]
        refine run_driveS 80 ?_
        simp only [go_sem, Nat.reduceAdd, Nat.reduceSub, Nat.reduceLeDiff, Nat.reduceMul, Nat.reduceLT, Nat.reduceEqDiff, Int.reduceLT, Int.reduceLE, Int.reduceAdd, Int.reduceSub, Int.reduceMul, Int.reduceToNat, reduceIte, reduceCtorEq, Nat.reduceBEq, v12_27]
        refine run_ret_drop Tryd.func12 res12 [0, 1] (.sl 1 0 n (.exact n)) _ rfl (by simp) ?_ ?_ ?_ (hQ (by omega))
        · simp only [go_sem, Nat.reduceAdd, Nat.reduceSub, Nat.reduceLeDiff, Nat.reduceMul, Nat.reduceLT, Nat.reduceEqDiff, Int.reduceLT, Int.reduceLE, Int.reduceAdd, Int.reduceSub, Int.reduceMul, Int.reduceToNat, reduceIte, reduceCtorEq, Nat.reduceBEq, hfit, lc_fit, scs_fit, fit, ren, gmap, lw_plain, true_or, or_true, hft]
        · simp [uniq, wrB]
        · simp only [go_sem, Nat.reduceAdd, Nat.reduceSub, Nat.reduceLeDiff, Nat.reduceMul, Nat.reduceLT, Nat.reduceEqDiff, Int.reduceLT, Int.reduceLE, Int.reduceAdd, Int.reduceSub, Int.reduceMul, Int.reduceToNat, reduceIte, reduceCtorEq, Nat.reduceBEq, r12, ren, gmap]
end Go.Vs.Tryd
