/- Text 7 of 7 of this claim: a machine of plain values beside the model, what the functions of the program and of the reference answer over it, and last the row and its card. -/
import Derived.Test.YtebekndmhgmfbaaDoorK6
import Derived.WalkKit
import Derived.ProofKit
import Derived.Carry
import Derived.Lay
import Derived.SevenTiedAt
import Derived.Deep.Slices
import Derived.OpenShut
import Derived.Test.YtebekndmhgmfbaaDoorCards
import Derived.Test.YtebekndmhgmfbaaDoorTie
import Derived.Conc.Holds
set_option linter.unusedVariables false
set_option linter.unusedSimpArgs false
namespace Go.Vs.Tryd
open Go.Proofs
variable {G : Nat → List V}
set_option linter.unusedSimpArgs false
attribute [local go_sem] lenO_nils lenO_sl sliceAtV Int.sub_zero List.length_append List.all_append ge_iff_le gt_iff_lt Int.natCast_nonneg Int.toNat_natCast Nat.mul_one b_and_ll b_shr_ll b_mul_ll b_add_ll b_or_ll b_shl_ll pick_ll pick_lc pick_bb driveS stopV drive stepV exo expo evs fillV isNil nilKind eqV eqL optA optM sliceAtV ev kn ldc stc splice appV srcV lenV setd wantV exitV rvs rv one List.length_cons List.length_nil List.cons_append List.nil_append List.append_nil List.replicate List.getD_cons_zero List.getD_cons_succ List.set_cons_zero List.set_cons_succ List.getElem?_cons_zero List.getElem?_cons_succ List.getElem?_nil List.take_succ_cons List.take_zero List.take_nil List.drop_succ_cons List.drop_zero List.drop_nil List.all_cons List.all_nil List.any_cons List.any_nil Bool.and_true Bool.true_and Bool.and_self Option.map_some Option.map_none Option.bind_some Option.some.injEq Nat.add_zero Nat.zero_add Int.toNat_zero Int.toNat_one Int.zero_add Int.add_zero if_true if_false ite_true ite_false and_true true_and and_self ne_eq not_false_eq_true not_true_eq_false decide_true decide_false Bool.false_eq_true Bool.not_true Bool.not_false beq_self_eq_true BEq.rfl Bool.not_eq_true Nat.le_refl Int.le_refl Nat.zero_le List.foldl List.map_cons List.map_nil Prod.mk.injEq Int.cast_ofNat_Int Int.zero_le_ofNat b_add_cc b_add_cl b_add_lc b_mul_cc b_mul_cl b_mul_lc b_sub_cc b_sub_cl b_sub_lc b_and_cc b_and_cl b_and_lc b_or_cc b_or_cl b_or_lc b_xor_cc b_xor_cl b_xor_lc b_andNot_cc b_andNot_cl b_andNot_lc b_shr_cc b_shr_cl b_shr_lc b_shl_cc b_shl_cl b_shl_lc b_lss b_leq b_gtr b_geq b_add_i b_sub_i b_mul_i beq_cc beq_cl beq_lc beq_ll b_quo_i b_rem_i neg_u64 wrap_i64 driveD stepD idsAt idOf maskH_nil restore_nil restore_mask List.filterMap_nil List.filterMap_cons VOp.looks VOp.makes exA cells_agg cells_int cells_bool cells_str cells_nilp cells_ptr cells_glob cells_nils cells_sl cells_nilf cells_fn cells_nili cells_ifc known_agg known_tup known_int known_bool known_str known_nilp known_ptr known_glob known_nils known_sl known_nilf known_fn known_nili known_ifc known_unk one_agg one_tup one_int one_bool one_str one_nilp one_ptr one_glob one_nils one_sl one_nilf one_fn one_nili one_ifc asK_int asN_int asB_bool asS_str asG_agg asT_tup
section
attribute [local go_sem ↓] lc_len lc_take lc_drop lc_known lc_one lc_rens lc_cells lw_known lw_agg lw_asG scs_known scs_one scs_len
attribute [local go_sem ↓] lc_take_add lc_drop_add lct8 lcne
attribute [local go_sem] bool_tf bool_ft
set_option maxRecDepth 100000
set_option maxHeartbeats 1000000
attribute [local go_sem ↓] prs_len prs_known prs_rens prs_fit
def t3 (n : Nat) (x : Nat) (y z : Nat → Nat) (j : Nat) : Nat := if j = 0 then x else if j < 1 + n then y (j - 1) else z (j - 1 - n)
theorem t3_0 (n x : Nat) (y z : Nat → Nat) : t3 n x y z 0 = x := rfl
theorem t3_1 (n x : Nat) (y z : Nat → Nat) {i : Nat} (h : i < n) : t3 n x y z (1 + i) = y i := by rw [t3, if_neg (by omega), if_pos (by omega), Nat.add_sub_cancel_left]
theorem t3_2 (n x : Nat) (y z : Nat → Nat) (i : Nat) : t3 n x y z (1 + n + i) = z i := by rw [t3, if_neg (by omega), if_neg (by omega)]; congr 1; omega
noncomputable def tK1 (us : Nat → Nat) (N a : Nat) : Nat → Nat := t3 (2 ^ N) 1 (fun i => (ell - a % ell) % ell * wf us N i % ell) fun i => us i * us i % ell
noncomputable def tK2 (us : Nat → Nat) (N a b : Nat) : Nat → Nat := t3 (2 ^ N) ((ell - a % ell) % ell * b % ell) (fun i => (ell - b % ell) % ell * linv (wf us N i) % ell) fun i => linv (us i) * linv (us i) % ell
theorem terms (hG : G 0 = tbl) (us g h L R : Nat → Nat) (hus : ∀ j, us j < 115792089237316195423570985008687907853269984665640564039457584007913129639936) (hg : ∀ j, g j < 115792089237316195423570985008687907853269984665640564039457584007913129639936) (nG nH nL nR nU P Q' a b : Nat) (hnG : nG < 1000000) (hnU : nU < 1000000) (ha : a < 115792089237316195423570985008687907853269984665640564039457584007913129639936) (hb : b < 115792089237316195423570985008687907853269984665640564039457584007913129639936) (ru rg rh rl rr : List V) (hru : ∀ f, rens f ru = ru) (hrg : ∀ f, rens f rg = rg) (hrh : ∀ f, rens f rh = rh) (hrl : ∀ f, rens f rl = rl) (hrr : ∀ f, rens f rr = rr)
    (cu cg ch cl cr : Cap) (Q : V → Heap → Prop)
    (hQ2 : (∀ k, ¬ Fit nG nH nL nR nU k) → Q (.tup [.nils, .int .i64 2]) [some ⟨.ro, scs nU us ++ ru⟩, some ⟨.ro, scs nG g ++ rg⟩, some ⟨.ro, scs nH h ++ rh⟩, some ⟨.ro, scs nL L ++ rl⟩, some ⟨.ro, scs nR R ++ rr⟩])
    (hQ4 : ∀ k, Fit nG nH nL nR nU k → (∃ j, j < nU ∧ us j % ell = 0) → Q (.tup [.nils, .int .i64 4]) [some ⟨.ro, scs nU us ++ ru⟩, some ⟨.ro, scs nG g ++ rg⟩, some ⟨.ro, scs nH h ++ rh⟩, some ⟨.ro, scs nL L ++ rl⟩, some ⟨.ro, scs nR R ++ rr⟩])
    (hQ0 : ∀ k, Fit nG nH nL nR nU k → (∀ j, j < nU → us j % ell ≠ 0) → Q (.tup [.sl 5 0 (2 * (1 + 2 ^ k + k)) (.grow 8), .int .i64 0]) [some ⟨.ro, scs nU us ++ ru⟩, some ⟨.ro, scs nG g ++ rg⟩, some ⟨.ro, scs nH h ++ rh⟩, some ⟨.ro, scs nL L ++ rl⟩, some ⟨.ro, scs nR R ++ rr⟩, some ⟨.ro, prs (1 + 2 ^ k + k) (tK1 us k a) (t3 (2 ^ k) P g L) (tK2 us k a b) (t3 (2 ^ k) Q' h R)⟩]) :
    VCall Tryd.prog G 9 [stL P Q' (.sl 1 0 nG cg) (.sl 2 0 nH ch), arL (.sl 3 0 nL cl) (.sl 4 0 nR cr) a b, .sl 0 0 nU cu] [some ⟨.ro, scs nU us ++ ru⟩, some ⟨.ro, scs nG g ++ rg⟩, some ⟨.ro, scs nH h ++ rh⟩, some ⟨.ro, scs nL L ++ rl⟩, some ⟨.ro, scs nR R ++ rr⟩] Q := by
  have fU : ∀ f, fit f (scs nU us ++ ru) (scs nU us ++ ru) := fun f => fit_same (by rw [rens_append, scs_rens, hru])
  have fG : ∀ f, fit f (scs nG g ++ rg) (scs nG g ++ rg) := fun f => fit_same (by rw [rens_append, scs_rens, hrg])
  have fH : ∀ f, fit f (scs nH h ++ rh) (scs nH h ++ rh) := fun f => fit_same (by rw [rens_append, scs_rens, hrh])
  have fL : ∀ f, fit f (scs nL L ++ rl) (scs nL L ++ rl) := fun f => fit_same (by rw [rens_append, scs_rens, hrl])
  have fR : ∀ f, fit f (scs nR R ++ rr) (scs nR R ++ rr) := fun f => fit_same (by rw [rens_append, scs_rens, hrr])
  have hf := fits_p (G := G) hG P Q' a b nG nH nL nR nU hnG hnU cg ch cl cr cu us hus ru hru (fun v k => k = [some ⟨.ro, scs nU us ++ ru⟩, none, none, none, none] ∧ (((∀ k, ¬ Fit nG nH nL nR nU k) ∧ v = .int .i64 2) ∨ (∃ k, Fit nG nH nL nR nU k ∧ (∃ j, j < nU ∧ us j % ell = 0) ∧ v = .int .i64 4) ∨ (∃ k, Fit nG nH nL nR nU k ∧ (∀ j, j < nU → us j % ell ≠ 0) ∧ v = .int .i64 0)))
    (fun h => ⟨rfl, .inl ⟨h, rfl⟩⟩) (fun k h1 h2 => ⟨rfl, .inr (.inl ⟨k, h1, h2, rfl⟩)⟩) (fun k h1 h2 => ⟨rfl, .inr (.inr ⟨k, h1, h2, rfl⟩)⟩)
  refine vcall_body Tryd.func9 nm9 code9 nt9 ?_
  unfold stL arL
  refine run_driveS 80 ?_
  simp only [go_sem, Nat.reduceAdd, Nat.reduceSub, Nat.reduceLeDiff, Nat.reduceMul, Nat.reduceLT, Nat.reduceEqDiff, Int.reduceLT, Int.reduceLE, Int.reduceAdd, Int.reduceSub, Int.reduceMul, Int.reduceToNat, reduceIte, reduceCtorEq, Nat.reduceBEq, v9, v9_0, v9_1]
  refine run_call' rfl ?_
  simp only [go_sem, Nat.reduceAdd, Nat.reduceSub, Nat.reduceLeDiff, Nat.reduceMul, Nat.reduceLT, Nat.reduceEqDiff, Int.reduceLT, Int.reduceLE, Int.reduceAdd, Int.reduceSub, Int.reduceMul, Int.reduceToNat, reduceIte, reduceCtorEq, Nat.reduceBEq, calV]
  refine vcall_at hf [0, 1, 2, 3, 4] (by simp) ?_ ?_ ?_ ?_
  · simp only [go_sem, Nat.reduceAdd, Nat.reduceSub, Nat.reduceLeDiff, Nat.reduceMul, Nat.reduceLT, Nat.reduceEqDiff, Int.reduceLT, Int.reduceLE, Int.reduceAdd, Int.reduceSub, Int.reduceMul, Int.reduceToNat, reduceIte, reduceCtorEq, Nat.reduceBEq, hfit, lc_fit, scs_fit, fit, ren, gmap, lw_plain, true_or, or_true, fU]
  · simp [uniq, wrB]
  · simp only [stL_ren, arL_ren, ren, rens, gmap]
    rfl
  rintro v h'' ⟨rfl, (⟨hz, rfl⟩ | ⟨k, f1, hz, rfl⟩ | ⟨k, f1, hz, rfl⟩)⟩
  · simp only [go_sem, Nat.reduceAdd, Nat.reduceSub, Nat.reduceLeDiff, Nat.reduceMul, Nat.reduceLT, Nat.reduceEqDiff, Int.reduceLT, Int.reduceLE, Int.reduceAdd, Int.reduceSub, Int.reduceMul, Int.reduceToNat, reduceIte, reduceCtorEq, Nat.reduceBEq, puts, wrB, ren, rens, gmap, Bool.false_eq_true, if_false]
    refine run_driveS 80 ?_
    simp only [go_sem, Nat.reduceAdd, Nat.reduceSub, Nat.reduceLeDiff, Nat.reduceMul, Nat.reduceLT, Nat.reduceEqDiff, Int.reduceLT, Int.reduceLE, Int.reduceAdd, Int.reduceSub, Int.reduceMul, Int.reduceToNat, reduceIte, reduceCtorEq, Nat.reduceBEq, v9_2]
    refine run_cond_t (by rfl) ?_
    refine run_driveS 80 ?_
    simp only [go_sem, Nat.reduceAdd, Nat.reduceSub, Nat.reduceLeDiff, Nat.reduceMul, Nat.reduceLT, Nat.reduceEqDiff, Int.reduceLT, Int.reduceLE, Int.reduceAdd, Int.reduceSub, Int.reduceMul, Int.reduceToNat, reduceIte, reduceCtorEq, Nat.reduceBEq, v9_3]
    refine run_ret_drop Tryd.func9 res9 [0, 1, 2, 3, 4] (.tup [.nils, .int .i64 2]) _ rfl (by simp) ?_ ?_ ?_ (hQ2 hz)
    · simp only [go_sem, Nat.reduceAdd, Nat.reduceSub, Nat.reduceLeDiff, Nat.reduceMul, Nat.reduceLT, Nat.reduceEqDiff, Int.reduceLT, Int.reduceLE, Int.reduceAdd, Int.reduceSub, Int.reduceMul, Int.reduceToNat, reduceIte, reduceCtorEq, Nat.reduceBEq, hfit, lc_fit, scs_fit, fit, ren, gmap, lw_plain, true_or, or_true, fU, fG, fH, fL, fR]
    · simp [uniq, wrB]
    · simp only [go_sem, Nat.reduceAdd, Nat.reduceSub, Nat.reduceLeDiff, Nat.reduceMul, Nat.reduceLT, Nat.reduceEqDiff, Int.reduceLT, Int.reduceLE, Int.reduceAdd, Int.reduceSub, Int.reduceMul, Int.reduceToNat, reduceIte, reduceCtorEq, Nat.reduceBEq, rr9, ren, rens, gmap]
  · simp only [go_sem, Nat.reduceAdd, Nat.reduceSub, Nat.reduceLeDiff, Nat.reduceMul, Nat.reduceLT, Nat.reduceEqDiff, Int.reduceLT, Int.reduceLE, Int.reduceAdd, Int.reduceSub, Int.reduceMul, Int.reduceToNat, reduceIte, reduceCtorEq, Nat.reduceBEq, puts, wrB, ren, rens, gmap, Bool.false_eq_true, if_false]
    refine run_driveS 80 ?_
    simp only [go_sem, Nat.reduceAdd, Nat.reduceSub, Nat.reduceLeDiff, Nat.reduceMul, Nat.reduceLT, Nat.reduceEqDiff, Int.reduceLT, Int.reduceLE, Int.reduceAdd, Int.reduceSub, Int.reduceMul, Int.reduceToNat, reduceIte, reduceCtorEq, Nat.reduceBEq, v9_2]
    refine run_cond_t (by rfl) ?_
    refine run_driveS 80 ?_
    simp only [go_sem, Nat.reduceAdd, Nat.reduceSub, Nat.reduceLeDiff, Nat.reduceMul, Nat.reduceLT, Nat.reduceEqDiff, Int.reduceLT, Int.reduceLE, Int.reduceAdd, Int.reduceSub, Int.reduceMul, Int.reduceToNat, reduceIte, reduceCtorEq, Nat.reduceBEq, v9_3]
    refine run_ret_drop Tryd.func9 res9 [0, 1, 2, 3, 4] (.tup [.nils, .int .i64 4]) _ rfl (by simp) ?_ ?_ ?_ (hQ4 k f1 hz)
    · simp only [go_sem, Nat.reduceAdd, Nat.reduceSub, Nat.reduceLeDiff, Nat.reduceMul, Nat.reduceLT, Nat.reduceEqDiff, Int.reduceLT, Int.reduceLE, Int.reduceAdd, Int.reduceSub, Int.reduceMul, Int.reduceToNat, reduceIte, reduceCtorEq, Nat.reduceBEq, hfit, lc_fit, scs_fit, fit, ren, gmap, lw_plain, true_or, or_true, fU, fG, fH, fL, fR]
    · simp [uniq, wrB]
    · simp only [go_sem, Nat.reduceAdd, Nat.reduceSub, Nat.reduceLeDiff, Nat.reduceMul, Nat.reduceLT, Nat.reduceEqDiff, Int.reduceLT, Int.reduceLE, Int.reduceAdd, Int.reduceSub, Int.reduceMul, Int.reduceToNat, reduceIte, reduceCtorEq, Nat.reduceBEq, rr9, ren, rens, gmap]
  · have hQ0 := hQ0 k f1 hz
    obtain ⟨q1, q2, q3, q4, q5, q6⟩ := f1
    obtain ⟨q1, q3, q4, q5, q6⟩ : nG = 2 ^ nU ∧ nH = 2 ^ nU ∧ nU = nL ∧ nU = nR ∧ k = nU := by
      subst q6
      exact ⟨q1, q3.trans q1, q4.symm, q5.symm, rfl⟩
    have hN : nU ≤ 10 := by omega
    clear hf hQ2 hQ4
    subst q1 q3 q4 q5
    rw [q6] at hQ0
    have hp : 2 ^ nU ≤ 2 ^ 10 := Nat.pow_le_pow_right (by decide) hN
    have hp0 : 0 < 2 ^ nU := Nat.two_pow_pos nU
    have hwei := weights (G := G) hG us hus ru hru nU hnU cu (fun v k => v = .tup [.sl 1 0 (2 ^ nU) (.exact (2 ^ nU)), .int .i64 0] ∧ k = [some ⟨.ro, scs nU us ++ ru⟩, some ⟨.rw, scs (2 ^ nU) (wf us nU)⟩]) (fun h => absurd hN (by omega)) (fun _ ⟨j, hj, e⟩ => absurd e (hz j hj)) (fun _ _ => ⟨rfl, rfl⟩)
    have hwl : ∀ j, wf us nU j < 115792089237316195423570985008687907853269984665640564039457584007913129639936 := fun j => Nat.lt_trans (wf_lt us nU j) ell_lt
    have hinv := fun c => invert_all (G := G) hG (wf us nU) hwl [] (fun _ => rfl) (2 ^ nU) (by omega) c (fun v k => v = .sl 1 0 (2 ^ nU) (.exact (2 ^ nU)) ∧ k = [some ⟨.ro, scs (2 ^ nU) (wf us nU)⟩, some ⟨.rw, scs (2 ^ nU) fun j => linv (wf us nU j)⟩]) (fun e => absurd e (by omega)) (fun _ => by rw [List.append_nil]; exact ⟨rfl, rfl⟩)
    simp only [List.append_nil] at hinv
    simp only [go_sem, Nat.reduceAdd, Nat.reduceSub, Nat.reduceLeDiff, Nat.reduceMul, Nat.reduceLT, Nat.reduceEqDiff, Int.reduceLT, Int.reduceLE, Int.reduceAdd, Int.reduceSub, Int.reduceMul, Int.reduceToNat, reduceIte, reduceCtorEq, Nat.reduceBEq, puts, wrB, ren, rens, gmap, Bool.false_eq_true, if_false]
    refine run_driveS 80 ?_
    simp only [go_sem, Nat.reduceAdd, Nat.reduceSub, Nat.reduceLeDiff, Nat.reduceMul, Nat.reduceLT, Nat.reduceEqDiff, Int.reduceLT, Int.reduceLE, Int.reduceAdd, Int.reduceSub, Int.reduceMul, Int.reduceToNat, reduceIte, reduceCtorEq, Nat.reduceBEq, v9_2]
    refine run_cond_f (by rfl) ?_
    refine run_driveS 80 ?_
    simp only [go_sem, Nat.reduceAdd, Nat.reduceSub, Nat.reduceLeDiff, Nat.reduceMul, Nat.reduceLT, Nat.reduceEqDiff, Int.reduceLT, Int.reduceLE, Int.reduceAdd, Int.reduceSub, Int.reduceMul, Int.reduceToNat, reduceIte, reduceCtorEq, Nat.reduceBEq, v9_4]
    refine run_call' rfl ?_
    simp only [go_sem, Nat.reduceAdd, Nat.reduceSub, Nat.reduceLeDiff, Nat.reduceMul, Nat.reduceLT, Nat.reduceEqDiff, Int.reduceLT, Int.reduceLE, Int.reduceAdd, Int.reduceSub, Int.reduceMul, Int.reduceToNat, reduceIte, reduceCtorEq, Nat.reduceBEq, calV]
    refine vcall_at hwei [0] (by simp) ?_ ?_ ?_ ?_
    · simp only [go_sem, Nat.reduceAdd, Nat.reduceSub, Nat.reduceLeDiff, Nat.reduceMul, Nat.reduceLT, Nat.reduceEqDiff, Int.reduceLT, Int.reduceLE, Int.reduceAdd, Int.reduceSub, Int.reduceMul, Int.reduceToNat, reduceIte, reduceCtorEq, Nat.reduceBEq, hfit, lc_fit, scs_fit, fit, ren, gmap, lw_plain, true_or, or_true, fU]
    · simp [uniq, wrB]
    · simp only [go_sem, Nat.reduceAdd, Nat.reduceSub, Nat.reduceLeDiff, Nat.reduceMul, Nat.reduceLT, Nat.reduceEqDiff, Int.reduceLT, Int.reduceLE, Int.reduceAdd, Int.reduceSub, Int.reduceMul, Int.reduceToNat, reduceIte, reduceCtorEq, Nat.reduceBEq, ren, rens, gmap]
    rintro v h'' ⟨rfl, rfl⟩
    simp only [go_sem, Nat.reduceAdd, Nat.reduceSub, Nat.reduceLeDiff, Nat.reduceMul, Nat.reduceLT, Nat.reduceEqDiff, Int.reduceLT, Int.reduceLE, Int.reduceAdd, Int.reduceSub, Int.reduceMul, Int.reduceToNat, reduceIte, reduceCtorEq, Nat.reduceBEq, puts, wrB, ren, rens, gmap, Bool.false_eq_true, if_false, renB, scs_rens, Option.map_some, Option.map_none]
    refine run_driveS 80 ?_
    simp only [go_sem, Nat.reduceAdd, Nat.reduceSub, Nat.reduceLeDiff, Nat.reduceMul, Nat.reduceLT, Nat.reduceEqDiff, Int.reduceLT, Int.reduceLE, Int.reduceAdd, Int.reduceSub, Int.reduceMul, Int.reduceToNat, reduceIte, reduceCtorEq, Nat.reduceBEq, v9_5]
    refine run_call' rfl ?_
    simp only [go_sem, Nat.reduceAdd, Nat.reduceSub, Nat.reduceLeDiff, Nat.reduceMul, Nat.reduceLT, Nat.reduceEqDiff, Int.reduceLT, Int.reduceLE, Int.reduceAdd, Int.reduceSub, Int.reduceMul, Int.reduceToNat, reduceIte, reduceCtorEq, Nat.reduceBEq, calV]
    refine vcall_at (hinv (.exact (2 ^ nU))) [7] (by simp) ?_ ?_ ?_ ?_
    · simp only [go_sem, Nat.reduceAdd, Nat.reduceSub, Nat.reduceLeDiff, Nat.reduceMul, Nat.reduceLT, Nat.reduceEqDiff, Int.reduceLT, Int.reduceLE, Int.reduceAdd, Int.reduceSub, Int.reduceMul, Int.reduceToNat, reduceIte, reduceCtorEq, Nat.reduceBEq, hfit, lc_fit, scs_fit, fit, ren, gmap, lw_plain, true_or, or_true]
    · simp [uniq, wrB]
    · simp only [go_sem, Nat.reduceAdd, Nat.reduceSub, Nat.reduceLeDiff, Nat.reduceMul, Nat.reduceLT, Nat.reduceEqDiff, Int.reduceLT, Int.reduceLE, Int.reduceAdd, Int.reduceSub, Int.reduceMul, Int.reduceToNat, reduceIte, reduceCtorEq, Nat.reduceBEq, ren, rens, gmap]
    rintro v h'' ⟨rfl, rfl⟩
    simp only [go_sem, Nat.reduceAdd, Nat.reduceSub, Nat.reduceLeDiff, Nat.reduceMul, Nat.reduceLT, Nat.reduceEqDiff, Int.reduceLT, Int.reduceLE, Int.reduceAdd, Int.reduceSub, Int.reduceMul, Int.reduceToNat, reduceIte, reduceCtorEq, Nat.reduceBEq, puts, wrB, ren, rens, gmap, Bool.false_eq_true, if_false, renB, scs_rens, Option.map_some, Option.map_none]
    refine run_driveS 80 ?_
    simp only [go_sem, Nat.reduceAdd, Nat.reduceSub, Nat.reduceLeDiff, Nat.reduceMul, Nat.reduceLT, Nat.reduceEqDiff, Int.reduceLT, Int.reduceLE, Int.reduceAdd, Int.reduceSub, Int.reduceMul, Int.reduceToNat, reduceIte, reduceCtorEq, Nat.reduceBEq]
    refine run_drw (by kernel_rfl) ?_
    refine drun_drive 40 (p := (_, _)) ?_
    simp only [go_sem, Nat.reduceAdd, Nat.reduceSub, Nat.reduceLeDiff, Nat.reduceMul, Nat.reduceLT, Nat.reduceEqDiff, Int.reduceLT, Int.reduceLE, Int.reduceAdd, Int.reduceSub, Int.reduceMul, Int.reduceToNat, reduceIte, reduceCtorEq, Nat.reduceBEq, v9_6]
    refine drun_call' ?_
    simp only [go_sem, Nat.reduceAdd, Nat.reduceSub, Nat.reduceLeDiff, Nat.reduceMul, Nat.reduceLT, Nat.reduceEqDiff, Int.reduceLT, Int.reduceLE, Int.reduceAdd, Int.reduceSub, Int.reduceMul, Int.reduceToNat, reduceIte, reduceCtorEq, Nat.reduceBEq, calV]
    refine neg_ hG a ha ?_
    refine drun_drive 40 (p := (_, _)) ?_
    simp only [go_sem, Nat.reduceAdd, Nat.reduceSub, Nat.reduceLeDiff, Nat.reduceMul, Nat.reduceLT, Nat.reduceEqDiff, Int.reduceLT, Int.reduceLE, Int.reduceAdd, Int.reduceSub, Int.reduceMul, Int.reduceToNat, reduceIte, reduceCtorEq, Nat.reduceBEq]
    refine drun_call' ?_
    simp only [go_sem, Nat.reduceAdd, Nat.reduceSub, Nat.reduceLeDiff, Nat.reduceMul, Nat.reduceLT, Nat.reduceEqDiff, Int.reduceLT, Int.reduceLE, Int.reduceAdd, Int.reduceSub, Int.reduceMul, Int.reduceToNat, reduceIte, reduceCtorEq, Nat.reduceBEq, calV]
    refine neg_ hG b hb ?_
    refine drun_drive 40 (p := (_, _)) ?_
    simp only [go_sem, Nat.reduceAdd, Nat.reduceSub, Nat.reduceLeDiff, Nat.reduceMul, Nat.reduceLT, Nat.reduceEqDiff, Int.reduceLT, Int.reduceLE, Int.reduceAdd, Int.reduceSub, Int.reduceMul, Int.reduceToNat, reduceIte, reduceCtorEq, Nat.reduceBEq]
    refine drun_end ?_
    refine run_driveS 80 ?_
    simp only [go_sem, Nat.reduceAdd, Nat.reduceSub, Nat.reduceLeDiff, Nat.reduceMul, Nat.reduceLT, Nat.reduceEqDiff, Int.reduceLT, Int.reduceLE, Int.reduceAdd, Int.reduceSub, Int.reduceMul, Int.reduceToNat, reduceIte, reduceCtorEq, Nat.reduceBEq]
    refine run_drw (by kernel_rfl) ?_
    refine drun_drive 40 (p := (_, _)) ?_
    simp only [go_sem, Nat.reduceAdd, Nat.reduceSub, Nat.reduceLeDiff, Nat.reduceMul, Nat.reduceLT, Nat.reduceEqDiff, Int.reduceLT, Int.reduceLE, Int.reduceAdd, Int.reduceSub, Int.reduceMul, Int.reduceToNat, reduceIte, reduceCtorEq, Nat.reduceBEq, v9_7]
    refine drun_call' ?_
    simp only [go_sem, Nat.reduceAdd, Nat.reduceSub, Nat.reduceLeDiff, Nat.reduceMul, Nat.reduceLT, Nat.reduceEqDiff, Int.reduceLT, Int.reduceLE, Int.reduceAdd, Int.reduceSub, Int.reduceMul, Int.reduceToNat, reduceIte, reduceCtorEq, Nat.reduceBEq, calV]
    refine int' 1 (by decide) ?_
    refine drun_drive 40 (p := (_, _)) ?_
    simp only [go_sem, Nat.reduceAdd, Nat.reduceSub, Nat.reduceLeDiff, Nat.reduceMul, Nat.reduceLT, Nat.reduceEqDiff, Int.reduceLT, Int.reduceLE, Int.reduceAdd, Int.reduceSub, Int.reduceMul, Int.reduceToNat, reduceIte, reduceCtorEq, Nat.reduceBEq]
    refine drun_call' ?_
    simp only [go_sem, Nat.reduceAdd, Nat.reduceSub, Nat.reduceLeDiff, Nat.reduceMul, Nat.reduceLT, Nat.reduceEqDiff, Int.reduceLT, Int.reduceLE, Int.reduceAdd, Int.reduceSub, Int.reduceMul, Int.reduceToNat, reduceIte, reduceCtorEq, Nat.reduceBEq, calV]
    refine mul' hG _ _ (mod_lt _) hb ?_
    refine drun_drive 40 (p := (_, _)) ?_
    simp only [go_sem, Nat.reduceAdd, Nat.reduceSub, Nat.reduceLeDiff, Nat.reduceMul, Nat.reduceLT, Nat.reduceEqDiff, Int.reduceLT, Int.reduceLE, Int.reduceAdd, Int.reduceSub, Int.reduceMul, Int.reduceToNat, reduceIte, reduceCtorEq, Nat.reduceBEq, List.append_assoc]
    refine drun_end ?_
    refine run_driveS 80 ?_
    simp only [go_sem, Nat.reduceAdd, Nat.reduceSub, Nat.reduceLeDiff, Nat.reduceMul, Nat.reduceLT, Nat.reduceEqDiff, Int.reduceLT, Int.reduceLE, Int.reduceAdd, Int.reduceSub, Int.reduceMul, Int.reduceToNat, reduceIte, reduceCtorEq, Nat.reduceBEq, v9_8, v9_15]
    have hna := mod_lt (ell - a % ell)
    have hnb := mod_lt (ell - b % ell)
    have hil : ∀ j, linv (wf us nU j) < 115792089237316195423570985008687907853269984665640564039457584007913129639936 := fun j => Nat.lt_trans (linv_lt _) ell_lt
    have hbl : ∀ j, linv (us j) < 115792089237316195423570985008687907853269984665640564039457584007913129639936 := fun j => Nat.lt_trans (linv_lt _) ell_lt
    refine run_rename [0, 1, 2, 3, 4, 5, 6, 7, 8, 9, 10, 11] rfl (by simp) ?_ ?_ ?_ (terms_loop1 hG us g h L R hg nU (2 ^ nU) P Q' a b ((ell - a % ell) % ell) ((ell - b % ell) % ell) ru rg rh rl rr hru hrg hrh hrl hrr (by omega) (wf us nU) (fun j => linv (wf us nU j)) hwl hil hna hnb cu cg ch cl cr (tK1 us nU a) (t3 (2 ^ nU) P g L) (tK2 us nU a b) (t3 (2 ^ nU) Q' h R)
      (fun i hi => t3_1 _ _ _ _ hi) (fun i hi => t3_1 _ _ _ _ hi) (fun i hi => t3_1 _ _ _ _ hi) (fun i hi => t3_1 _ _ _ _ hi) (K := [.c (.seq (.reg v9_16) (.seq (.seq (.reg v9_17) (.block 2 v9_24)) (.seq (.reg v9_25) .ret)))]) (fun k' oc hk' => ?_) (2 ^ nU) 0 .rw (.exact 2) (by omega) (.inl ⟨rfl, rfl, rfl⟩))
    · unfold th1
      rw [show prs (1 + 0) (tK1 us nU a) (t3 (2 ^ nU) P g L) (tK2 us nU a b) (t3 (2 ^ nU) Q' h R) = lc 1 ++ (lc P ++ (lc ((ell - a % ell) % ell * b % ell) ++ lc Q')) from rfl]
      have fS : ∀ f, f 1 = 1 → f 2 = 2 → fit f (lc P ++ (lc Q' ++ [.sl 1 0 (2 ^ nU) cg, .sl 2 0 (2 ^ nU) ch])) (lc P ++ (lc Q' ++ [.sl 1 0 (2 ^ nU) cg, .sl 2 0 (2 ^ nU) ch])) := fun f h1 h2 => fit_same (by simp only [rens_append, lc_rens, rens, ren, h1, h2])
      have fX : ∀ f, fit f (lc a ++ lc b) (lc a ++ lc b) := fun f => fit_same (by rw [rens_append, lc_rens, lc_rens])
      have fO : ∀ f, fit f (lc 1 ++ (lc P ++ (lc ((ell - a % ell) % ell * b % ell) ++ lc Q'))) (lc 1 ++ (lc P ++ (lc ((ell - a % ell) % ell * b % ell) ++ lc Q'))) := fun f => fit_same (by simp only [rens_append, lc_rens])
      have hgm : ∀ j, j < 12 → gmap [0, 1, 2, 3, 4, 5, 6, 7, 8, 9, 10, 11] 12 j = j := by decide
      simp only [go_sem, Nat.reduceAdd, Nat.reduceSub, Nat.reduceLeDiff, Nat.reduceMul, Nat.reduceLT, Nat.reduceEqDiff, Int.reduceLT, Int.reduceLE, Int.reduceAdd, Int.reduceSub, Int.reduceMul, Int.reduceToNat, reduceIte, reduceCtorEq, Nat.reduceBEq, hfit, lc_fit, scs_fit, fit, ren, gmap, lw_plain, true_or, or_true, fU, fG, fH, fL, fR, fS _ (hgm 1 (by decide)) (hgm 2 (by decide)), fX, fO]
    · simp [uniq, th1, wrB]
    · unfold tv1
      simp only [go_sem, Nat.reduceAdd, Nat.reduceSub, Nat.reduceLeDiff, Nat.reduceMul, Nat.reduceLT, Nat.reduceEqDiff, Int.reduceLT, Int.reduceLE, Int.reduceAdd, Int.reduceSub, Int.reduceMul, Int.reduceToNat, reduceIte, reduceCtorEq, Nat.reduceBEq, hfit, lc_fit, scs_fit, fit, ren, gmap, lw_plain, true_or, or_true]
    · have hk2 : k' = .grow ∧ oc = .grow 8 := by
        rcases hk' with ⟨_, _, e⟩ | e
        · omega
        · exact e
      obtain ⟨rfl, rfl⟩ := hk2
      have fO : ∀ m f, fit f (prs m (tK1 us nU a) (t3 (2 ^ nU) P g L) (tK2 us nU a b) (t3 (2 ^ nU) Q' h R)) (prs m (tK1 us nU a) (t3 (2 ^ nU) P g L) (tK2 us nU a b) (t3 (2 ^ nU) Q' h R)) := fun m f => prs_fit m _ _ _ _ f
      unfold tv1 th1
      refine run_driveS 80 ?_
      simp only [go_sem, Nat.reduceAdd, Nat.reduceSub, Nat.reduceLeDiff, Nat.reduceMul, Nat.reduceLT, Nat.reduceEqDiff, Int.reduceLT, Int.reduceLE, Int.reduceAdd, Int.reduceSub, Int.reduceMul, Int.reduceToNat, reduceIte, reduceCtorEq, Nat.reduceBEq, v9_16]
      refine run_call' rfl ?_
      simp only [go_sem, Nat.reduceAdd, Nat.reduceSub, Nat.reduceLeDiff, Nat.reduceMul, Nat.reduceLT, Nat.reduceEqDiff, Int.reduceLT, Int.reduceLE, Int.reduceAdd, Int.reduceSub, Int.reduceMul, Int.reduceToNat, reduceIte, reduceCtorEq, Nat.reduceBEq, calV]
      by_cases hN0 : nU = 0
      · have hbk := invert_all (G := G) hG us hus ru hru nU hnU cu (fun v k => v = .nils ∧ k = [some ⟨.ro, scs nU us ++ ru⟩]) (fun _ => ⟨rfl, rfl⟩) (fun e => absurd e (by omega))
        refine vcall_at hbk [0] (by simp) ?_ ?_ ?_ ?_
        · simp only [go_sem, Nat.reduceAdd, Nat.reduceSub, Nat.reduceLeDiff, Nat.reduceMul, Nat.reduceLT, Nat.reduceEqDiff, Int.reduceLT, Int.reduceLE, Int.reduceAdd, Int.reduceSub, Int.reduceMul, Int.reduceToNat, reduceIte, reduceCtorEq, Nat.reduceBEq, hfit, lc_fit, scs_fit, fit, ren, gmap, lw_plain, true_or, or_true, fU]
        · simp [uniq, wrB]
        · simp only [go_sem, Nat.reduceAdd, Nat.reduceSub, Nat.reduceLeDiff, Nat.reduceMul, Nat.reduceLT, Nat.reduceEqDiff, Int.reduceLT, Int.reduceLE, Int.reduceAdd, Int.reduceSub, Int.reduceMul, Int.reduceToNat, reduceIte, reduceCtorEq, Nat.reduceBEq, ren, rens, gmap]
        rintro v h'' ⟨rfl, rfl⟩
        simp only [go_sem, Nat.reduceAdd, Nat.reduceSub, Nat.reduceLeDiff, Nat.reduceMul, Nat.reduceLT, Nat.reduceEqDiff, Int.reduceLT, Int.reduceLE, Int.reduceAdd, Int.reduceSub, Int.reduceMul, Int.reduceToNat, reduceIte, reduceCtorEq, Nat.reduceBEq, puts, wrB, ren, rens, gmap, Bool.false_eq_true, if_false]
        have h0 : ((0 : Int) < (nU : Int)) = False := eq_false (by omega)
        refine run_driveS 80 ?_
        simp only [go_sem, Nat.reduceAdd, Nat.reduceSub, Nat.reduceLeDiff, Nat.reduceMul, Nat.reduceLT, Nat.reduceEqDiff, Int.reduceLT, Int.reduceLE, Int.reduceAdd, Int.reduceSub, Int.reduceMul, Int.reduceToNat, reduceIte, reduceCtorEq, Nat.reduceBEq, v9_17, v9_24]
        refine run_loop_eq v9_23.eq_1 ?_
        refine run_driveS 80 ?_
        simp only [go_sem, Nat.reduceAdd, Nat.reduceSub, Nat.reduceLeDiff, Nat.reduceMul, Nat.reduceLT, Nat.reduceEqDiff, Int.reduceLT, Int.reduceLE, Int.reduceAdd, Int.reduceSub, Int.reduceMul, Int.reduceToNat, reduceIte, reduceCtorEq, Nat.reduceBEq, v9_18, h0]
        refine run_exit rfl ?_
        refine run_driveS 80 ?_
        simp only [go_sem, Nat.reduceAdd, Nat.reduceSub, Nat.reduceLeDiff, Nat.reduceMul, Nat.reduceLT, Nat.reduceEqDiff, Int.reduceLT, Int.reduceLE, Int.reduceAdd, Int.reduceSub, Int.reduceMul, Int.reduceToNat, reduceIte, reduceCtorEq, Nat.reduceBEq, v9_25]
        refine run_ret_drop Tryd.func9 res9 [0, 1, 2, 3, 4, 11] (.tup [.sl 5 0 (2 * (1 + 2 ^ nU + nU)) (.grow 8), .int .i64 0]) _ rfl (by simp) ?_ ?_ ?_ hQ0
        · rw [show 1 + 2 ^ nU + nU = 1 + 2 ^ nU by omega]
          simp only [go_sem, Nat.reduceAdd, Nat.reduceSub, Nat.reduceLeDiff, Nat.reduceMul, Nat.reduceLT, Nat.reduceEqDiff, Int.reduceLT, Int.reduceLE, Int.reduceAdd, Int.reduceSub, Int.reduceMul, Int.reduceToNat, reduceIte, reduceCtorEq, Nat.reduceBEq, hfit, lc_fit, scs_fit, fit, ren, gmap, lw_plain, true_or, or_true, fU, fG, fH, fL, fR, fO]
        · simp [uniq, wrB]
        · rw [show 1 + 2 ^ nU + nU = 1 + 2 ^ nU by omega]
          simp only [go_sem, Nat.reduceAdd, Nat.reduceSub, Nat.reduceLeDiff, Nat.reduceMul, Nat.reduceLT, Nat.reduceEqDiff, Int.reduceLT, Int.reduceLE, Int.reduceAdd, Int.reduceSub, Int.reduceMul, Int.reduceToNat, reduceIte, reduceCtorEq, Nat.reduceBEq, rr9, ren, rens, gmap]
      · have hbk := invert_all (G := G) hG us hus ru hru nU hnU cu (fun v k => v = .sl 1 0 nU (.exact nU) ∧ k = [some ⟨.ro, scs nU us ++ ru⟩, some ⟨.rw, scs nU fun j => linv (us j)⟩]) (fun e => absurd e hN0) (fun _ => ⟨rfl, rfl⟩)
        refine vcall_at hbk [0] (by simp) ?_ ?_ ?_ ?_
        · simp only [go_sem, Nat.reduceAdd, Nat.reduceSub, Nat.reduceLeDiff, Nat.reduceMul, Nat.reduceLT, Nat.reduceEqDiff, Int.reduceLT, Int.reduceLE, Int.reduceAdd, Int.reduceSub, Int.reduceMul, Int.reduceToNat, reduceIte, reduceCtorEq, Nat.reduceBEq, hfit, lc_fit, scs_fit, fit, ren, gmap, lw_plain, true_or, or_true, fU]
        · simp [uniq, wrB]
        · simp only [go_sem, Nat.reduceAdd, Nat.reduceSub, Nat.reduceLeDiff, Nat.reduceMul, Nat.reduceLT, Nat.reduceEqDiff, Int.reduceLT, Int.reduceLE, Int.reduceAdd, Int.reduceSub, Int.reduceMul, Int.reduceToNat, reduceIte, reduceCtorEq, Nat.reduceBEq, ren, rens, gmap]
        rintro v h'' ⟨rfl, rfl⟩
        simp only [go_sem, Nat.reduceAdd, Nat.reduceSub, Nat.reduceLeDiff, Nat.reduceMul, Nat.reduceLT, Nat.reduceEqDiff, Int.reduceLT, Int.reduceLE, Int.reduceAdd, Int.reduceSub, Int.reduceMul, Int.reduceToNat, reduceIte, reduceCtorEq, Nat.reduceBEq, puts, wrB, ren, rens, gmap, Bool.false_eq_true, if_false, renB, scs_rens, Option.map_some, Option.map_none]
        refine run_driveS 80 ?_
        simp only [go_sem, Nat.reduceAdd, Nat.reduceSub, Nat.reduceLeDiff, Nat.reduceMul, Nat.reduceLT, Nat.reduceEqDiff, Int.reduceLT, Int.reduceLE, Int.reduceAdd, Int.reduceSub, Int.reduceMul, Int.reduceToNat, reduceIte, reduceCtorEq, Nat.reduceBEq, v9_17, v9_24]
        refine run_rename [0, 1, 2, 3, 4, 5, 6, 7, 8, 9, 10, 11, 12] rfl (by simp) ?_ ?_ ?_ (terms_loop2 hG us (fun j => linv (us j)) g h L R hus hbl nU (2 ^ nU) P Q' a b (1 + 2 ^ nU) ru rg rh rl rr hru hrg hrh hrl hrr hN (by omega) cu cg ch cl cr (tK1 us nU a) (t3 (2 ^ nU) P g L) (tK2 us nU a b) (t3 (2 ^ nU) Q' h R)
          (fun i _ => t3_2 _ _ _ _ i) (fun i _ => t3_2 _ _ _ _ i) (fun i _ => t3_2 _ _ _ _ i) (fun i _ => t3_2 _ _ _ _ i) (K := [.c (.seq (.reg v9_25) .ret)]) ?_ nU 0 (by omega))
        · unfold th2
          have fS : ∀ f, f 1 = 1 → f 2 = 2 → fit f (lc P ++ (lc Q' ++ [.sl 1 0 (2 ^ nU) cg, .sl 2 0 (2 ^ nU) ch])) (lc P ++ (lc Q' ++ [.sl 1 0 (2 ^ nU) cg, .sl 2 0 (2 ^ nU) ch])) := fun f h1 h2 => fit_same (by simp only [rens_append, lc_rens, rens, ren, h1, h2])
          have fX : ∀ f, fit f (lc a ++ lc b) (lc a ++ lc b) := fun f => fit_same (by rw [rens_append, lc_rens, lc_rens])
          have hgm : ∀ j, j < 13 → gmap [0, 1, 2, 3, 4, 5, 6, 7, 8, 9, 10, 11, 12] 13 j = j := by decide
          simp only [go_sem, Nat.reduceAdd, Nat.reduceSub, Nat.reduceLeDiff, Nat.reduceMul, Nat.reduceLT, Nat.reduceEqDiff, Int.reduceLT, Int.reduceLE, Int.reduceAdd, Int.reduceSub, Int.reduceMul, Int.reduceToNat, reduceIte, reduceCtorEq, Nat.reduceBEq, hfit, lc_fit, scs_fit, fit, ren, gmap, lw_plain, true_or, or_true, fU, fG, fH, fL, fR, fS _ (hgm 1 (by decide)) (hgm 2 (by decide)), fX, fO]
        · simp [uniq, th2, wrB]
        · unfold tv2
          simp only [go_sem, Nat.reduceAdd, Nat.reduceSub, Nat.reduceLeDiff, Nat.reduceMul, Nat.reduceLT, Nat.reduceEqDiff, Int.reduceLT, Int.reduceLE, Int.reduceAdd, Int.reduceSub, Int.reduceMul, Int.reduceToNat, reduceIte, reduceCtorEq, Nat.reduceBEq, hfit, lc_fit, scs_fit, fit, ren, gmap, lw_plain, true_or, or_true]
        · unfold tv2 th2
          refine run_driveS 80 ?_
          simp only [go_sem, Nat.reduceAdd, Nat.reduceSub, Nat.reduceLeDiff, Nat.reduceMul, Nat.reduceLT, Nat.reduceEqDiff, Int.reduceLT, Int.reduceLE, Int.reduceAdd, Int.reduceSub, Int.reduceMul, Int.reduceToNat, reduceIte, reduceCtorEq, Nat.reduceBEq, v9_25]
          refine run_ret_drop Tryd.func9 res9 [0, 1, 2, 3, 4, 11] (.tup [.sl 5 0 (2 * (1 + 2 ^ nU + nU)) (.grow 8), .int .i64 0]) _ rfl (by simp) ?_ ?_ ?_ hQ0
          · simp only [go_sem, Nat.reduceAdd, Nat.reduceSub, Nat.reduceLeDiff, Nat.reduceMul, Nat.reduceLT, Nat.reduceEqDiff, Int.reduceLT, Int.reduceLE, Int.reduceAdd, Int.reduceSub, Int.reduceMul, Int.reduceToNat, reduceIte, reduceCtorEq, Nat.reduceBEq, hfit, lc_fit, scs_fit, fit, ren, gmap, lw_plain, true_or, or_true, fU, fG, fH, fL, fR, fO]
          · simp [uniq, wrB]
          · simp only [go_sem, Nat.reduceAdd, Nat.reduceSub, Nat.reduceLeDiff, Nat.reduceMul, Nat.reduceLT, Nat.reduceEqDiff, Int.reduceLT, Int.reduceLE, Int.reduceAdd, Int.reduceSub, Int.reduceMul, Int.reduceToNat, reduceIte, reduceCtorEq, Nat.reduceBEq, rr9, ren, rens, gmap]
end
section
attribute [local go_sem ↓] lc_len lc_take lc_drop lc_known lc_one lc_rens lc_cells lw_known lw_agg lw_asG scs_known scs_one scs_len
attribute [local go_sem] lt_nat lt_natl lt_lnat lt_ll bool_tf bool_ft
attribute [local go_sem ↓] ecs_len ecs_take ecs_drop ecs_known ecs_one ecs_rens ecs_fit ecs_cells ew_known ew_agg ew_asG ecs_kind ecs_k ecs_l ers_known ers_one ers_len ers_rens ers_fit
set_option maxRecDepth 100000
set_option maxHeartbeats 1000000
theorem line_ (k : Nat) {h : Heap} {R : V → Heap → Prop} (hQ : R (lw k) h) : VCall Tryd.prog G 22 [lw k] h R := by
  refine vcall_plain (Q := fun v => v = lw k) ?_ (fun g => by simp only [rens, lw_plain]) (fun v g hv => by subst hv; exact lw_plain _ g) (fun v hv => by subst hv; exact hQ)
  refine vcall_body Tryd.func22 nm22 code22 nt22 ?_
  refine run_driveS 80 ?_
  simp only [go_sem, Nat.reduceAdd, Nat.reduceSub, Nat.reduceLeDiff, Nat.reduceMul, Nat.reduceLT, Nat.reduceEqDiff, Int.reduceLT, Int.reduceLE, Int.reduceAdd, Int.reduceSub, Int.reduceMul, Int.reduceToNat, reduceIte, reduceCtorEq, Nat.reduceBEq, v22, v22_0, v22_1]
  refine run_ret_drop Tryd.func22 res22 [] (lw k) [] rfl (by simp) trivial (by simp [uniq]) ?_ ⟨rfl, rfl⟩
  simp only [go_sem, Nat.reduceAdd, Nat.reduceSub, Nat.reduceLeDiff, Nat.reduceMul, Nat.reduceLT, Nat.reduceEqDiff, Int.reduceLT, Int.reduceLE, Int.reduceAdd, Int.reduceSub, Int.reduceMul, Int.reduceToNat, reduceIte, reduceCtorEq, Nat.reduceBEq, rr22, lw_plain]
theorem doc_line (k : Nat) (hk : k < 115792089237316195423570985008687907853269984665640564039457584007913129639936) {h : Heap} {R : V → Heap → Prop} (hQ : R (ew (k % ell)) h) : VCall Tryd.prog G 39 [lw k] h R := by
  refine vcall_plain (Q := fun v => v = ew (k % ell)) ?_ (fun g => by simp only [rens, lw_plain]) (fun v g hv => by subst hv; exact ew_plain _ g) (fun v hv => by subst hv; exact hQ)
  refine vcall_body Tryd.func39 nm39 code39 nt39 ?_
  refine run_driveS 80 ?_
  simp only [go_sem, Nat.reduceAdd, Nat.reduceSub, Nat.reduceLeDiff, Nat.reduceMul, Nat.reduceLT, Nat.reduceEqDiff, Int.reduceLT, Int.reduceLE, Int.reduceAdd, Int.reduceSub, Int.reduceMul, Int.reduceToNat, reduceIte, reduceCtorEq, Nat.reduceBEq, v39, v39_0, v39_1]
  refine run_call' rfl ?_
  simp only [go_sem, Nat.reduceAdd, Nat.reduceSub, Nat.reduceLeDiff, Nat.reduceMul, Nat.reduceLT, Nat.reduceEqDiff, Int.reduceLT, Int.reduceLE, Int.reduceAdd, Int.reduceSub, Int.reduceMul, Int.reduceToNat, reduceIte, reduceCtorEq, Nat.reduceBEq, calV]
  refine ref_least k hk ?_
  refine run_driveS 80 ?_
  simp only [go_sem, Nat.reduceAdd, Nat.reduceSub, Nat.reduceLeDiff, Nat.reduceMul, Nat.reduceLT, Nat.reduceEqDiff, Int.reduceLT, Int.reduceLE, Int.reduceAdd, Int.reduceSub, Int.reduceMul, Int.reduceToNat, reduceIte, reduceCtorEq, Nat.reduceBEq]
  refine run_call' rfl ?_
  simp only [go_sem, Nat.reduceAdd, Nat.reduceSub, Nat.reduceLeDiff, Nat.reduceMul, Nat.reduceLT, Nat.reduceEqDiff, Int.reduceLT, Int.reduceLE, Int.reduceAdd, Int.reduceSub, Int.reduceMul, Int.reduceToNat, reduceIte, reduceCtorEq, Nat.reduceBEq, calV]
  refine line_of _ ?_
  refine run_driveS 80 ?_
  simp only [go_sem, Nat.reduceAdd, Nat.reduceSub, Nat.reduceLeDiff, Nat.reduceMul, Nat.reduceLT, Nat.reduceEqDiff, Int.reduceLT, Int.reduceLE, Int.reduceAdd, Int.reduceSub, Int.reduceMul, Int.reduceToNat, reduceIte, reduceCtorEq, Nat.reduceBEq]
  refine run_ret_drop Tryd.func39 res39 [] (ew (k % ell)) [] rfl (by simp) trivial (by simp [uniq]) ?_ ⟨rfl, rfl⟩
  simp only [go_sem, Nat.reduceAdd, Nat.reduceSub, Nat.reduceLeDiff, Nat.reduceMul, Nat.reduceLT, Nat.reduceEqDiff, Int.reduceLT, Int.reduceLE, Int.reduceAdd, Int.reduceSub, Int.reduceMul, Int.reduceToNat, reduceIte, reduceCtorEq, Nat.reduceBEq, rr39, ew_plain]
def liv (n i : Nat) (uv : V) : List V := [uv, .unk, .nils, .sl 1 0 (n + 1) (.exact (n + 1)), .int .i64 i] ++ List.replicate 30 .unk
def lih (b0 : Option Blk) (f : Nat → Nat) (n i : Nat) : Heap := [b0, some ⟨.rw, scs (n + 1) fun j => if j < i then f j else 0⟩]
theorem lines_loop (f : Nat → Nat) (N m n : Nat) (hN : n ≤ N) (hn : n ≤ 2100) {Q : V → Heap → Prop} {K : List TI}
    (hK : Run Tryd.prog G 38 1 Q (K, ⟨liv n n (.sl 0 0 n (.exact m)), lih (some ⟨.ro, scs N f⟩) f n n⟩)) : ∀ k i, i + k = n → Run Tryd.prog G 38 1 Q (.l v38_8 :: .b 0 :: K, ⟨liv n i (.sl 0 0 n (.exact m)), lih (some ⟨.ro, scs N f⟩) f n i⟩)
  | 0, i, h => by
    obtain rfl : i = n := by omega
    have h0 : ((i : Int) < (i : Int)) = False := eq_false (by omega)
    unfold liv lih
    refine run_loop_eq v38_8.eq_1 ?_
    refine run_driveS 80 ?_
    simp only [go_sem, Nat.reduceAdd, Nat.reduceSub, Nat.reduceLeDiff, Nat.reduceMul, Nat.reduceLT, Nat.reduceEqDiff, Int.reduceLT, Int.reduceLE, Int.reduceAdd, Int.reduceSub, Int.reduceMul, Int.reduceToNat, reduceIte, reduceCtorEq, Nat.reduceBEq, v38_4, h0]
    refine run_exit rfl ?_
    refine run_rename [0, 1] rfl (by simp) ?_ ?_ ?_ hK
    · unfold lih
      simp only [go_sem, Nat.reduceAdd, Nat.reduceSub, Nat.reduceLeDiff, Nat.reduceMul, Nat.reduceLT, Nat.reduceEqDiff, Int.reduceLT, Int.reduceLE, Int.reduceAdd, Int.reduceSub, Int.reduceMul, Int.reduceToNat, reduceIte, reduceCtorEq, Nat.reduceBEq, hfit, lc_fit, scs_fit, fit, ren, gmap, lw_plain, true_or, or_true]
    · simp [uniq, lih, wrB]
    · unfold liv
      simp only [go_sem, Nat.reduceAdd, Nat.reduceSub, Nat.reduceLeDiff, Nat.reduceMul, Nat.reduceLT, Nat.reduceEqDiff, Int.reduceLT, Int.reduceLE, Int.reduceAdd, Int.reduceSub, Int.reduceMul, Int.reduceToNat, reduceIte, reduceCtorEq, Nat.reduceBEq, hfit, lc_fit, scs_fit, fit, ren, gmap, lw_plain, true_or, or_true]
  | k + 1, i, h => by
    have ih := lines_loop f N m n hN hn hK k (i + 1) (by omega)
    have h0 : ((i : Int) < (n : Int)) = True := eq_true (by omega)
    have h1 : ((i : Int) < ((n + 1 : Nat) : Int)) = True := eq_true (by omega)
    have hg := scs_get' N f (i := i) (by omega)
    have hin : (i * 4 + 4 ≤ (n + 1) * 4) = True := eq_true (by omega)
    have hset := scs_set (n + 1) (fun j => if j < i then f j else 0) (fun j => if j < i + 1 then f j else 0) (i := i) (v := f i) (by omega) (by rw [if_pos (by omega)]) (fun j _ hj => by by_cases h1 : j < i <;> simp [h1] <;> omega)
    have hw : IntKind.i64.wrap ((i : Int) + 1) = ((i + 1 : Nat) : Int) := by rw [wrap_i64 (by omega) (by omega)]; omega
    unfold liv lih
    refine run_loop_eq v38_8.eq_1 ?_
    refine run_driveS 80 ?_
    simp only [go_sem, Nat.reduceAdd, Nat.reduceSub, Nat.reduceLeDiff, Nat.reduceMul, Nat.reduceLT, Nat.reduceEqDiff, Int.reduceLT, Int.reduceLE, Int.reduceAdd, Int.reduceSub, Int.reduceMul, Int.reduceToNat, reduceIte, reduceCtorEq, Nat.reduceBEq, v38_4, v38_6, v38_5, h0, hg]
    refine run_call' rfl ?_
    simp only [go_sem, Nat.reduceAdd, Nat.reduceSub, Nat.reduceLeDiff, Nat.reduceMul, Nat.reduceLT, Nat.reduceEqDiff, Int.reduceLT, Int.reduceLE, Int.reduceAdd, Int.reduceSub, Int.reduceMul, Int.reduceToNat, reduceIte, reduceCtorEq, Nat.reduceBEq, calV]
    refine line_ _ ?_
    refine run_driveS 80 ?_
    simp only [go_sem, Nat.reduceAdd, Nat.reduceSub, Nat.reduceLeDiff, Nat.reduceMul, Nat.reduceLT, Nat.reduceEqDiff, Int.reduceLT, Int.reduceLE, Int.reduceAdd, Int.reduceSub, Int.reduceMul, Int.reduceToNat, reduceIte, reduceCtorEq, Nat.reduceBEq, v38_7, h1, hin, hset, hw]
    refine run_rename [0, 1] rfl (by simp) ?_ ?_ ?_ ih
    · unfold lih
      simp only [go_sem, Nat.reduceAdd, Nat.reduceSub, Nat.reduceLeDiff, Nat.reduceMul, Nat.reduceLT, Nat.reduceEqDiff, Int.reduceLT, Int.reduceLE, Int.reduceAdd, Int.reduceSub, Int.reduceMul, Int.reduceToNat, reduceIte, reduceCtorEq, Nat.reduceBEq, hfit, lc_fit, scs_fit, fit, ren, gmap, lw_plain, true_or, or_true]
    · simp [uniq, lih, wrB]
    · unfold liv
      simp only [go_sem, Nat.reduceAdd, Nat.reduceSub, Nat.reduceLeDiff, Nat.reduceMul, Nat.reduceLT, Nat.reduceEqDiff, Int.reduceLT, Int.reduceLE, Int.reduceAdd, Int.reduceSub, Int.reduceMul, Int.reduceToNat, reduceIte, reduceCtorEq, Nat.reduceBEq, hfit, lc_fit, scs_fit, fit, ren, gmap, lw_plain, true_or, or_true]
theorem lines_ (f : Nat → Nat) (N n : Nat) (uv : V) (b0 : Option Blk) (hi : In f N uv b0) (hn : n = min N 2100) (Q : V → Heap → Prop) (hQ : Q (.sl 1 0 n (.exact (n + 1))) [b0, some ⟨.rw, scs n f ++ lc 77⟩]) : VCall Tryd.prog G 38 [uv] [b0] Q := by
  have hend : (scs (n + 1) fun j => if j < n + 1 then (if j < n then f j else 77) else 0) = scs n f ++ lc 77 := by
    show (scs n fun j => if j < n + 1 then (if j < n then f j else 77) else 0) ++ lc (if n < n + 1 then (if n < n then f n else 77) else 0) = _
    rw [if_pos (by omega), if_neg (by omega)]
    congr 1
    exact scs_congr fun j hj => by rw [if_pos (by omega), if_pos hj]
  have hft : ∀ g, fit g (scs n f ++ lc 77) (scs n f ++ lc 77) := fun g => fit_same (by rw [rens_append, scs_rens, lc_rens])
  have h77 : [V.int .u64 (nl 77), .int .u64 (nl 0), .int .u64 (nl 0), .int .u64 (nl 0)] = lc 77 := rfl
  have h77' : [V.int .u64 (nl 77), .int .u64 (nl 0), .int .u64 (nl 0), .int .u64 (nl 0)] = lc 77 := rfl
  refine vcall_body Tryd.func38 nm38 code38 nt38 ?_
  cases hi with
  | nil =>
    obtain rfl : n = 0 := by omega
    refine run_driveS 80 ?_
    simp only [go_sem, Nat.reduceAdd, Nat.reduceSub, Nat.reduceLeDiff, Nat.reduceMul, Nat.reduceLT, Nat.reduceEqDiff, Int.reduceLT, Int.reduceLE, Int.reduceAdd, Int.reduceSub, Int.reduceMul, Int.reduceToNat, reduceIte, reduceCtorEq, Nat.reduceBEq, v38, v38_0, v38_1]
    refine run_call' rfl ?_
    simp only [go_sem, Nat.reduceAdd, Nat.reduceSub, Nat.reduceLeDiff, Nat.reduceMul, Nat.reduceLT, Nat.reduceEqDiff, Int.reduceLT, Int.reduceLE, Int.reduceAdd, Int.reduceSub, Int.reduceMul, Int.reduceToNat, reduceIte, reduceCtorEq, Nat.reduceBEq, calV]
    refine cut_nil ?_
    refine run_driveS 80 ?_
    simp only [go_sem, Nat.reduceAdd, Nat.reduceSub, Nat.reduceLeDiff, Nat.reduceMul, Nat.reduceLT, Nat.reduceEqDiff, Int.reduceLT, Int.reduceLE, Int.reduceAdd, Int.reduceSub, Int.reduceMul, Int.reduceToNat, reduceIte, reduceCtorEq, Nat.reduceBEq, v38_2, v38_3, v38_9]
    refine run_loop_eq v38_8.eq_1 ?_
    refine run_driveS 80 ?_
    simp only [go_sem, Nat.reduceAdd, Nat.reduceSub, Nat.reduceLeDiff, Nat.reduceMul, Nat.reduceLT, Nat.reduceEqDiff, Int.reduceLT, Int.reduceLE, Int.reduceAdd, Int.reduceSub, Int.reduceMul, Int.reduceToNat, reduceIte, reduceCtorEq, Nat.reduceBEq, v38_4]
    refine run_exit rfl ?_
    refine run_driveS 80 ?_
    simp only [go_sem, Nat.reduceAdd, Nat.reduceSub, Nat.reduceLeDiff, Nat.reduceMul, Nat.reduceLT, Nat.reduceEqDiff, Int.reduceLT, Int.reduceLE, Int.reduceAdd, Int.reduceSub, Int.reduceMul, Int.reduceToNat, reduceIte, reduceCtorEq, Nat.reduceBEq, v38_10, h77]
    refine run_call' rfl ?_
    simp only [go_sem, Nat.reduceAdd, Nat.reduceSub, Nat.reduceLeDiff, Nat.reduceMul, Nat.reduceLT, Nat.reduceEqDiff, Int.reduceLT, Int.reduceLE, Int.reduceAdd, Int.reduceSub, Int.reduceMul, Int.reduceToNat, reduceIte, reduceCtorEq, Nat.reduceBEq, calV]
    refine line_ _ ?_
    refine run_driveS 80 ?_
    simp only [go_sem, Nat.reduceAdd, Nat.reduceSub, Nat.reduceLeDiff, Nat.reduceMul, Nat.reduceLT, Nat.reduceEqDiff, Int.reduceLT, Int.reduceLE, Int.reduceAdd, Int.reduceSub, Int.reduceMul, Int.reduceToNat, reduceIte, reduceCtorEq, Nat.reduceBEq, v38_11]
    refine run_ret_drop Tryd.func38 res38 [0, 1] (.sl 1 0 0 (.exact (0 + 1))) _ rfl (by simp) ?_ ?_ ?_ hQ
    · simp only [go_sem, Nat.reduceAdd, Nat.reduceSub, Nat.reduceLeDiff, Nat.reduceMul, Nat.reduceLT, Nat.reduceEqDiff, Int.reduceLT, Int.reduceLE, Int.reduceAdd, Int.reduceSub, Int.reduceMul, Int.reduceToNat, reduceIte, reduceCtorEq, Nat.reduceBEq, hfit, lc_fit, scs_fit, fit, ren, gmap, lw_plain, true_or, or_true, hft]
      exact hft _
    · simp [uniq, wrB]
    · simp only [go_sem, Nat.reduceAdd, Nat.reduceSub, Nat.reduceLeDiff, Nat.reduceMul, Nat.reduceLT, Nat.reduceEqDiff, Int.reduceLT, Int.reduceLE, Int.reduceAdd, Int.reduceSub, Int.reduceMul, Int.reduceToNat, reduceIte, reduceCtorEq, Nat.reduceBEq, rr38, ren, gmap]
  | sl M m hm =>
    refine run_driveS 80 ?_
    simp only [go_sem, Nat.reduceAdd, Nat.reduceSub, Nat.reduceLeDiff, Nat.reduceMul, Nat.reduceLT, Nat.reduceEqDiff, Int.reduceLT, Int.reduceLE, Int.reduceAdd, Int.reduceSub, Int.reduceMul, Int.reduceToNat, reduceIte, reduceCtorEq, Nat.reduceBEq, v38, v38_0, v38_1]
    refine run_call' rfl ?_
    simp only [go_sem, Nat.reduceAdd, Nat.reduceSub, Nat.reduceLeDiff, Nat.reduceMul, Nat.reduceLT, Nat.reduceEqDiff, Int.reduceLT, Int.reduceLE, Int.reduceAdd, Int.reduceSub, Int.reduceMul, Int.reduceToNat, reduceIte, reduceCtorEq, Nat.reduceBEq, calV]
    refine cut_sl' 0 N m hm ?_
    rw [← hn]
    have hw : IntKind.i64.wrap ((n : Int) + 1) = ((n + 1 : Nat) : Int) := by rw [wrap_i64 (by omega) (by omega)]; omega
    have h2 : ((32 : Int) * ((n + 1 : Nat) : Int) ≤ 281474976710656) = True := eq_true (by omega)
    have h3 : (((n + 1 : Nat) : Int) ≤ 9223372036854775807) = True := eq_true (by omega)
    refine run_driveS 80 ?_
    simp only [go_sem, Nat.reduceAdd, Nat.reduceSub, Nat.reduceLeDiff, Nat.reduceMul, Nat.reduceLT, Nat.reduceEqDiff, Int.reduceLT, Int.reduceLE, Int.reduceAdd, Int.reduceSub, Int.reduceMul, Int.reduceToNat, reduceIte, reduceCtorEq, Nat.reduceBEq, v38_2, v38_3, v38_9, hw, h2, h3, ↓scs_zero]
    refine run_rename [0, 1] rfl (by simp) ?_ ?_ ?_ (lines_loop f N m n (by omega) (by omega) (K := [.c (.seq (.reg v38_10) (.seq (.reg v38_11) .ret))]) ?_ n 0 (by omega))
    · unfold lih
      rw [show (scs (n + 1) fun j => if j < 0 then f j else 0) = scs (n + 1) fun _ => 0 from scs_congr fun j _ => if_neg (by omega)]
      simp only [go_sem, Nat.reduceAdd, Nat.reduceSub, Nat.reduceLeDiff, Nat.reduceMul, Nat.reduceLT, Nat.reduceEqDiff, Int.reduceLT, Int.reduceLE, Int.reduceAdd, Int.reduceSub, Int.reduceMul, Int.reduceToNat, reduceIte, reduceCtorEq, Nat.reduceBEq, hfit, lc_fit, scs_fit, fit, ren, gmap, lw_plain, true_or, or_true]
    · simp [uniq, lih, wrB]
    · unfold liv
      simp only [go_sem, Nat.reduceAdd, Nat.reduceSub, Nat.reduceLeDiff, Nat.reduceMul, Nat.reduceLT, Nat.reduceEqDiff, Int.reduceLT, Int.reduceLE, Int.reduceAdd, Int.reduceSub, Int.reduceMul, Int.reduceToNat, reduceIte, reduceCtorEq, Nat.reduceBEq, hfit, lc_fit, scs_fit, fit, ren, gmap, lw_plain, true_or, or_true]
    · unfold liv lih
      have h1 : ((n : Int) < ((n + 1 : Nat) : Int)) = True := eq_true (by omega)
      have h4 : ((n : Int) ≤ ((n + 1 : Nat) : Int)) = True := eq_true (by omega)
      have hin : (n * 4 + 4 ≤ (n + 1) * 4) = True := eq_true (by omega)
      have hset := scs_set (n + 1) (fun j => if j < n then f j else 0) (fun j => if j < n + 1 then (if j < n then f j else 77) else 0) (i := n) (v := 77) (by omega) (by simp) (fun j _ hj => by by_cases h1 : j < n <;> simp [h1] <;> omega)
      have h77 : [V.int .u64 (nl 77), .int .u64 (nl 0), .int .u64 (nl 0), .int .u64 (nl 0)] = lc 77 := rfl
      refine run_driveS 80 ?_
      simp only [go_sem, Nat.reduceAdd, Nat.reduceSub, Nat.reduceLeDiff, Nat.reduceMul, Nat.reduceLT, Nat.reduceEqDiff, Int.reduceLT, Int.reduceLE, Int.reduceAdd, Int.reduceSub, Int.reduceMul, Int.reduceToNat, reduceIte, reduceCtorEq, Nat.reduceBEq, v38_10, h77]
      refine run_call' rfl ?_
      simp only [go_sem, Nat.reduceAdd, Nat.reduceSub, Nat.reduceLeDiff, Nat.reduceMul, Nat.reduceLT, Nat.reduceEqDiff, Int.reduceLT, Int.reduceLE, Int.reduceAdd, Int.reduceSub, Int.reduceMul, Int.reduceToNat, reduceIte, reduceCtorEq, Nat.reduceBEq, calV]
      refine line_ _ ?_
      refine run_driveS 80 ?_
      simp only [go_sem, Nat.reduceAdd, Nat.reduceSub, Nat.reduceLeDiff, Nat.reduceMul, Nat.reduceLT, Nat.reduceEqDiff, Int.reduceLT, Int.reduceLE, Int.reduceAdd, Int.reduceSub, Int.reduceMul, Int.reduceToNat, reduceIte, reduceCtorEq, Nat.reduceBEq, v38_11, h1, h4, hin, hset, hend]
      refine run_ret_drop Tryd.func38 res38 [0, 1] (.sl 1 0 n (.exact (n + 1))) _ rfl (by simp) ?_ ?_ ?_ hQ
      · simp only [go_sem, Nat.reduceAdd, Nat.reduceSub, Nat.reduceLeDiff, Nat.reduceMul, Nat.reduceLT, Nat.reduceEqDiff, Int.reduceLT, Int.reduceLE, Int.reduceAdd, Int.reduceSub, Int.reduceMul, Int.reduceToNat, reduceIte, reduceCtorEq, Nat.reduceBEq, hfit, lc_fit, scs_fit, fit, ren, gmap, lw_plain, true_or, or_true, hft]
      · simp [uniq, wrB]
      · simp only [go_sem, Nat.reduceAdd, Nat.reduceSub, Nat.reduceLeDiff, Nat.reduceMul, Nat.reduceLT, Nat.reduceEqDiff, Int.reduceLT, Int.reduceLE, Int.reduceAdd, Int.reduceSub, Int.reduceMul, Int.reduceToNat, reduceIte, reduceCtorEq, Nat.reduceBEq, rr38, ren, gmap]
end
section
attribute [local go_sem ↓] lc_len lc_take lc_drop lc_known lc_one lc_rens lc_cells lw_known lw_agg lw_asG scs_known scs_one scs_len
attribute [local go_sem] lt_nat lt_natl lt_lnat lt_ll bool_tf bool_ft
attribute [local go_sem ↓] ecs_len ecs_take ecs_drop ecs_known ecs_one ecs_rens ecs_fit ecs_cells ew_known ew_agg ew_asG ecs_kind ecs_k ecs_l ers_known ers_one ers_len ers_rens ers_fit
set_option maxRecDepth 100000
set_option maxHeartbeats 1000000
def dlv (n : Nat) (m : Nat) (i : Nat) : List V := [.sl 0 0 n (.exact m), .unk, .nils, de 1 i, .int .i64 i] ++ List.replicate 17 .unk
theorem docl_loop (f : Nat → Nat) (hf : ∀ j, f j < 115792089237316195423570985008687907853269984665640564039457584007913129639936) (N m n : Nat) (hN : n ≤ N) (hn : n ≤ 2100) {Q : V → Heap → Prop} {K : List TI}
    (hK : Run Tryd.prog G 40 1 Q (K, ⟨dlv n m n, [some ⟨.ro, scs N f⟩, ebg (fun j => f j % ell) n]⟩)) : ∀ k i, i + k = n → Run Tryd.prog G 40 1 Q (.l v40_8 :: .b 0 :: K, ⟨dlv n m i, [some ⟨.ro, scs N f⟩, ebg (fun j => f j % ell) i]⟩)
  | 0, i, h => by
    obtain rfl : i = n := by omega
    have h0 : ((i : Int) < (i : Int)) = False := eq_false (by omega)
    unfold dlv
    by_cases hi : i = 0
    · subst hi
      rw [show de 1 0 = .nils from rfl, show ebg (fun j => f j % ell) 0 = none from rfl]
      refine run_loop_eq v40_8.eq_1 ?_
      refine run_driveS 80 ?_
      simp only [go_sem, Nat.reduceAdd, Nat.reduceSub, Nat.reduceLeDiff, Nat.reduceMul, Nat.reduceLT, Nat.reduceEqDiff, Int.reduceLT, Int.reduceLE, Int.reduceAdd, Int.reduceSub, Int.reduceMul, Int.reduceToNat, reduceIte, reduceCtorEq, Nat.reduceBEq, v40_4]
      refine run_exit rfl ?_
      refine run_rename [0, 1] rfl (by simp) ?_ ?_ ?_ hK
      · rw [show ebg (fun j => f j % ell) 0 = none from rfl]
        simp only [go_sem, Nat.reduceAdd, Nat.reduceSub, Nat.reduceLeDiff, Nat.reduceMul, Nat.reduceLT, Nat.reduceEqDiff, Int.reduceLT, Int.reduceLE, Int.reduceAdd, Int.reduceSub, Int.reduceMul, Int.reduceToNat, reduceIte, reduceCtorEq, Nat.reduceBEq, hfit, lc_fit, scs_fit, fit, ren, gmap, lw_plain, true_or, or_true]
      · simp [uniq, ebg, wrB]
      · unfold dlv
        rw [show de 1 0 = .nils from rfl]
        simp only [go_sem, Nat.reduceAdd, Nat.reduceSub, Nat.reduceLeDiff, Nat.reduceMul, Nat.reduceLT, Nat.reduceEqDiff, Int.reduceLT, Int.reduceLE, Int.reduceAdd, Int.reduceSub, Int.reduceMul, Int.reduceToNat, reduceIte, reduceCtorEq, Nat.reduceBEq, hfit, lc_fit, scs_fit, fit, ren, gmap, lw_plain, true_or, or_true]
    · have hi : 0 < i := by omega
      rw [de_pos hi, ebg_pos hi]
      refine run_loop_eq v40_8.eq_1 ?_
      refine run_driveS 80 ?_
      simp only [go_sem, Nat.reduceAdd, Nat.reduceSub, Nat.reduceLeDiff, Nat.reduceMul, Nat.reduceLT, Nat.reduceEqDiff, Int.reduceLT, Int.reduceLE, Int.reduceAdd, Int.reduceSub, Int.reduceMul, Int.reduceToNat, reduceIte, reduceCtorEq, Nat.reduceBEq, v40_4, h0]
      refine run_exit rfl ?_
      refine run_rename [0, 1] rfl (by simp) ?_ ?_ ?_ hK
      · rw [ebg_pos hi]
        simp only [go_sem, Nat.reduceAdd, Nat.reduceSub, Nat.reduceLeDiff, Nat.reduceMul, Nat.reduceLT, Nat.reduceEqDiff, Int.reduceLT, Int.reduceLE, Int.reduceAdd, Int.reduceSub, Int.reduceMul, Int.reduceToNat, reduceIte, reduceCtorEq, Nat.reduceBEq, hfit, lc_fit, scs_fit, fit, ren, gmap, lw_plain, true_or, or_true]
      · simp [uniq, wrB]
      · unfold dlv
        rw [de_pos hi]
        simp only [go_sem, Nat.reduceAdd, Nat.reduceSub, Nat.reduceLeDiff, Nat.reduceMul, Nat.reduceLT, Nat.reduceEqDiff, Int.reduceLT, Int.reduceLE, Int.reduceAdd, Int.reduceSub, Int.reduceMul, Int.reduceToNat, reduceIte, reduceCtorEq, Nat.reduceBEq, hfit, lc_fit, scs_fit, fit, ren, gmap, lw_plain, true_or, or_true]
  | k + 1, i, h => by
    have ih := docl_loop f hf N m n hN hn hK k (i + 1) (by omega)
    have h0 : ((i : Int) < (n : Int)) = True := eq_true (by omega)
    have hg := scs_get' N f (i := i) (by omega)
    have hw : IntKind.i64.wrap ((i : Int) + 1) = ((i + 1 : Nat) : Int) := by rw [wrap_i64 (by omega) (by omega)]; omega
    unfold dlv
    by_cases hi : i = 0
    · subst hi
      have h0' : ((0 : Int) < (n : Int)) = True := eq_true (by omega)
      rw [Nat.zero_mul, List.drop_zero] at hg
      rw [show de 1 0 = .nils from rfl, show ebg (fun j => f j % ell) 0 = none from rfl]
      refine run_loop_eq v40_8.eq_1 ?_
      refine run_driveS 80 ?_
      simp only [go_sem, Nat.reduceAdd, Nat.reduceSub, Nat.reduceLeDiff, Nat.reduceMul, Nat.reduceLT, Nat.reduceEqDiff, Int.reduceLT, Int.reduceLE, Int.reduceAdd, Int.reduceSub, Int.reduceMul, Int.reduceToNat, reduceIte, reduceCtorEq, Nat.reduceBEq, v40_4, v40_6, v40_5, h0', hg]
      refine run_call' rfl ?_
      simp only [go_sem, Nat.reduceAdd, Nat.reduceSub, Nat.reduceLeDiff, Nat.reduceMul, Nat.reduceLT, Nat.reduceEqDiff, Int.reduceLT, Int.reduceLE, Int.reduceAdd, Int.reduceSub, Int.reduceMul, Int.reduceToNat, reduceIte, reduceCtorEq, Nat.reduceBEq, calV]
      refine doc_line _ (hf 0) ?_
      refine run_driveS 80 ?_
      simp only [go_sem, Nat.reduceAdd, Nat.reduceSub, Nat.reduceLeDiff, Nat.reduceMul, Nat.reduceLT, Nat.reduceEqDiff, Int.reduceLT, Int.reduceLE, Int.reduceAdd, Int.reduceSub, Int.reduceMul, Int.reduceToNat, reduceIte, reduceCtorEq, Nat.reduceBEq, v40_7]
      refine run_rename [0, 3] rfl (by simp) ?_ ?_ ?_ ih
      · rw [ebg_pos (by omega)]
        rw [show ers (0 + 1) (fun j => f j % ell) = ecs (f 0 % ell) from rfl]
        simp only [go_sem, Nat.reduceAdd, Nat.reduceSub, Nat.reduceLeDiff, Nat.reduceMul, Nat.reduceLT, Nat.reduceEqDiff, Int.reduceLT, Int.reduceLE, Int.reduceAdd, Int.reduceSub, Int.reduceMul, Int.reduceToNat, reduceIte, reduceCtorEq, Nat.reduceBEq, hfit, lc_fit, scs_fit, fit, ren, gmap, lw_plain, true_or, or_true]
      · simp [uniq, ebg, wrB]
      · unfold dlv
        rw [de_pos (by omega)]
        simp only [go_sem, Nat.reduceAdd, Nat.reduceSub, Nat.reduceLeDiff, Nat.reduceMul, Nat.reduceLT, Nat.reduceEqDiff, Int.reduceLT, Int.reduceLE, Int.reduceAdd, Int.reduceSub, Int.reduceMul, Int.reduceToNat, reduceIte, reduceCtorEq, Nat.reduceBEq, hfit, lc_fit, scs_fit, fit, ren, gmap, lw_plain, true_or, or_true]
    · have hi : 0 < i := by omega
      rw [de_pos hi, ebg_pos hi]
      have a1 : ((i + 1) * 224 ≤ 140737488355328) = True := eq_true (by omega)
      have a2 : (i + 1 ≤ 9223372036854775807) = True := eq_true (by omega)
      have a3 := ers_snoc i (fun j => f j % ell) (v := f i % ell) rfl
      refine run_loop_eq v40_8.eq_1 ?_
      refine run_driveS 80 ?_
      simp only [go_sem, Nat.reduceAdd, Nat.reduceSub, Nat.reduceLeDiff, Nat.reduceMul, Nat.reduceLT, Nat.reduceEqDiff, Int.reduceLT, Int.reduceLE, Int.reduceAdd, Int.reduceSub, Int.reduceMul, Int.reduceToNat, reduceIte, reduceCtorEq, Nat.reduceBEq, v40_4, v40_6, v40_5, h0, hg]
      refine run_call' rfl ?_
      simp only [go_sem, Nat.reduceAdd, Nat.reduceSub, Nat.reduceLeDiff, Nat.reduceMul, Nat.reduceLT, Nat.reduceEqDiff, Int.reduceLT, Int.reduceLE, Int.reduceAdd, Int.reduceSub, Int.reduceMul, Int.reduceToNat, reduceIte, reduceCtorEq, Nat.reduceBEq, calV]
      refine doc_line _ (hf i) ?_
      refine run_driveS 80 ?_
      simp only [go_sem, Nat.reduceAdd, Nat.reduceSub, Nat.reduceLeDiff, Nat.reduceMul, Nat.reduceLT, Nat.reduceEqDiff, Int.reduceLT, Int.reduceLE, Int.reduceAdd, Int.reduceSub, Int.reduceMul, Int.reduceToNat, reduceIte, reduceCtorEq, Nat.reduceBEq, v40_7, a1, a2, a3, hw]
      refine run_rename [0, 3] rfl (by simp) ?_ ?_ ?_ ih
      · rw [ebg_pos (by omega)]
        simp only [go_sem, Nat.reduceAdd, Nat.reduceSub, Nat.reduceLeDiff, Nat.reduceMul, Nat.reduceLT, Nat.reduceEqDiff, Int.reduceLT, Int.reduceLE, Int.reduceAdd, Int.reduceSub, Int.reduceMul, Int.reduceToNat, reduceIte, reduceCtorEq, Nat.reduceBEq, hfit, lc_fit, scs_fit, fit, ren, gmap, lw_plain, true_or, or_true]
      · simp [uniq, ebg, wrB]
      · unfold dlv
        rw [de_pos (by omega)]
        simp only [go_sem, Nat.reduceAdd, Nat.reduceSub, Nat.reduceLeDiff, Nat.reduceMul, Nat.reduceLT, Nat.reduceEqDiff, Int.reduceLT, Int.reduceLE, Int.reduceAdd, Int.reduceSub, Int.reduceMul, Int.reduceToNat, reduceIte, reduceCtorEq, Nat.reduceBEq, hfit, lc_fit, scs_fit, fit, ren, gmap, lw_plain, true_or, or_true]
theorem doc_lines (f : Nat → Nat) (hf : ∀ j, f j < 115792089237316195423570985008687907853269984665640564039457584007913129639936) (N n : Nat) (uv : V) (b0 : Option Blk) (hi : In f N uv b0) (hn : n = min N 2100) (Q : V → Heap → Prop) (hQ : Q (de 1 n) [b0, ebg (fun j => f j % ell) n]) : VCall Tryd.prog G 40 [uv] [b0] Q := by
  refine vcall_body Tryd.func40 nm40 code40 nt40 ?_
  cases hi with
  | nil =>
    obtain rfl : n = 0 := by omega
    refine run_driveS 80 ?_
    simp only [go_sem, Nat.reduceAdd, Nat.reduceSub, Nat.reduceLeDiff, Nat.reduceMul, Nat.reduceLT, Nat.reduceEqDiff, Int.reduceLT, Int.reduceLE, Int.reduceAdd, Int.reduceSub, Int.reduceMul, Int.reduceToNat, reduceIte, reduceCtorEq, Nat.reduceBEq, v40, v40_0, v40_1]
    refine run_call' rfl ?_
    simp only [go_sem, Nat.reduceAdd, Nat.reduceSub, Nat.reduceLeDiff, Nat.reduceMul, Nat.reduceLT, Nat.reduceEqDiff, Int.reduceLT, Int.reduceLE, Int.reduceAdd, Int.reduceSub, Int.reduceMul, Int.reduceToNat, reduceIte, reduceCtorEq, Nat.reduceBEq, calV]
    refine cut_nil ?_
    refine run_driveS 80 ?_
    simp only [go_sem, Nat.reduceAdd, Nat.reduceSub, Nat.reduceLeDiff, Nat.reduceMul, Nat.reduceLT, Nat.reduceEqDiff, Int.reduceLT, Int.reduceLE, Int.reduceAdd, Int.reduceSub, Int.reduceMul, Int.reduceToNat, reduceIte, reduceCtorEq, Nat.reduceBEq, v40_2, v40_3, v40_9]
    refine run_loop_eq v40_8.eq_1 ?_
    refine run_driveS 80 ?_
    simp only [go_sem, Nat.reduceAdd, Nat.reduceSub, Nat.reduceLeDiff, Nat.reduceMul, Nat.reduceLT, Nat.reduceEqDiff, Int.reduceLT, Int.reduceLE, Int.reduceAdd, Int.reduceSub, Int.reduceMul, Int.reduceToNat, reduceIte, reduceCtorEq, Nat.reduceBEq, v40_4]
    refine run_exit rfl ?_
    refine run_driveS 80 ?_
    simp only [go_sem, Nat.reduceAdd, Nat.reduceSub, Nat.reduceLeDiff, Nat.reduceMul, Nat.reduceLT, Nat.reduceEqDiff, Int.reduceLT, Int.reduceLE, Int.reduceAdd, Int.reduceSub, Int.reduceMul, Int.reduceToNat, reduceIte, reduceCtorEq, Nat.reduceBEq, v40_10]
    refine run_ret_drop Tryd.func40 res40 [0, 1] .nils _ rfl (by simp) ?_ ?_ ?_ hQ
    · rw [show ebg (fun j => f j % ell) 0 = none from rfl]
      simp only [go_sem, Nat.reduceAdd, Nat.reduceSub, Nat.reduceLeDiff, Nat.reduceMul, Nat.reduceLT, Nat.reduceEqDiff, Int.reduceLT, Int.reduceLE, Int.reduceAdd, Int.reduceSub, Int.reduceMul, Int.reduceToNat, reduceIte, reduceCtorEq, Nat.reduceBEq, hfit, lc_fit, scs_fit, fit, ren, gmap, lw_plain, true_or, or_true]
    · simp [uniq, ebg, wrB]
    · simp only [go_sem, Nat.reduceAdd, Nat.reduceSub, Nat.reduceLeDiff, Nat.reduceMul, Nat.reduceLT, Nat.reduceEqDiff, Int.reduceLT, Int.reduceLE, Int.reduceAdd, Int.reduceSub, Int.reduceMul, Int.reduceToNat, reduceIte, reduceCtorEq, Nat.reduceBEq, rr40, ren, gmap]
  | sl M m hm =>
    refine run_driveS 80 ?_
    simp only [go_sem, Nat.reduceAdd, Nat.reduceSub, Nat.reduceLeDiff, Nat.reduceMul, Nat.reduceLT, Nat.reduceEqDiff, Int.reduceLT, Int.reduceLE, Int.reduceAdd, Int.reduceSub, Int.reduceMul, Int.reduceToNat, reduceIte, reduceCtorEq, Nat.reduceBEq, v40, v40_0, v40_1]
    refine run_call' rfl ?_
    simp only [go_sem, Nat.reduceAdd, Nat.reduceSub, Nat.reduceLeDiff, Nat.reduceMul, Nat.reduceLT, Nat.reduceEqDiff, Int.reduceLT, Int.reduceLE, Int.reduceAdd, Int.reduceSub, Int.reduceMul, Int.reduceToNat, reduceIte, reduceCtorEq, Nat.reduceBEq, calV]
    refine cut_sl' 0 N m hm ?_
    rw [← hn]
    refine run_driveS 80 ?_
    simp only [go_sem, Nat.reduceAdd, Nat.reduceSub, Nat.reduceLeDiff, Nat.reduceMul, Nat.reduceLT, Nat.reduceEqDiff, Int.reduceLT, Int.reduceLE, Int.reduceAdd, Int.reduceSub, Int.reduceMul, Int.reduceToNat, reduceIte, reduceCtorEq, Nat.reduceBEq, v40_2, v40_3, v40_9]
    refine run_rename [0, 1] rfl (by simp) ?_ ?_ ?_ (docl_loop f hf N m n (by omega) (by omega) (K := [.c (.seq (.reg v40_10) .ret)]) ?_ n 0 (by omega))
    · rw [show ebg (fun j => f j % ell) 0 = none from rfl]
      simp only [go_sem, Nat.reduceAdd, Nat.reduceSub, Nat.reduceLeDiff, Nat.reduceMul, Nat.reduceLT, Nat.reduceEqDiff, Int.reduceLT, Int.reduceLE, Int.reduceAdd, Int.reduceSub, Int.reduceMul, Int.reduceToNat, reduceIte, reduceCtorEq, Nat.reduceBEq, hfit, lc_fit, scs_fit, fit, ren, gmap, lw_plain, true_or, or_true]
    · simp [uniq, ebg, wrB]
    · unfold dlv
      rw [show de 1 0 = .nils from rfl]
      simp only [go_sem, Nat.reduceAdd, Nat.reduceSub, Nat.reduceLeDiff, Nat.reduceMul, Nat.reduceLT, Nat.reduceEqDiff, Int.reduceLT, Int.reduceLE, Int.reduceAdd, Int.reduceSub, Int.reduceMul, Int.reduceToNat, reduceIte, reduceCtorEq, Nat.reduceBEq, hfit, lc_fit, scs_fit, fit, ren, gmap, lw_plain, true_or, or_true]
    · unfold dlv
      by_cases h0 : n = 0
      · rw [h0] at hQ ⊢
        rw [show ebg (fun j => f j % ell) 0 = none from rfl, show de 1 0 = .nils from rfl] at hQ ⊢
        refine run_driveS 80 ?_
        simp only [go_sem, Nat.reduceAdd, Nat.reduceSub, Nat.reduceLeDiff, Nat.reduceMul, Nat.reduceLT, Nat.reduceEqDiff, Int.reduceLT, Int.reduceLE, Int.reduceAdd, Int.reduceSub, Int.reduceMul, Int.reduceToNat, reduceIte, reduceCtorEq, Nat.reduceBEq, v40_10]
        refine run_ret_drop Tryd.func40 res40 [0, 1] .nils _ rfl (by simp) ?_ ?_ ?_ hQ
        · simp only [go_sem, Nat.reduceAdd, Nat.reduceSub, Nat.reduceLeDiff, Nat.reduceMul, Nat.reduceLT, Nat.reduceEqDiff, Int.reduceLT, Int.reduceLE, Int.reduceAdd, Int.reduceSub, Int.reduceMul, Int.reduceToNat, reduceIte, reduceCtorEq, Nat.reduceBEq, hfit, lc_fit, scs_fit, fit, ren, gmap, lw_plain, true_or, or_true]
        · simp [uniq, wrB]
        · simp only [go_sem, Nat.reduceAdd, Nat.reduceSub, Nat.reduceLeDiff, Nat.reduceMul, Nat.reduceLT, Nat.reduceEqDiff, Int.reduceLT, Int.reduceLE, Int.reduceAdd, Int.reduceSub, Int.reduceMul, Int.reduceToNat, reduceIte, reduceCtorEq, Nat.reduceBEq, rr40, ren, gmap]
      · rw [ebg_pos (by omega), de_pos (by omega)] at hQ ⊢
        refine run_driveS 80 ?_
        simp only [go_sem, Nat.reduceAdd, Nat.reduceSub, Nat.reduceLeDiff, Nat.reduceMul, Nat.reduceLT, Nat.reduceEqDiff, Int.reduceLT, Int.reduceLE, Int.reduceAdd, Int.reduceSub, Int.reduceMul, Int.reduceToNat, reduceIte, reduceCtorEq, Nat.reduceBEq, v40_10]
        refine run_ret_drop Tryd.func40 res40 [0, 1] (.sl 1 0 n (.grow 26)) _ rfl (by simp) ?_ ?_ ?_ hQ
        · simp only [go_sem, Nat.reduceAdd, Nat.reduceSub, Nat.reduceLeDiff, Nat.reduceMul, Nat.reduceLT, Nat.reduceEqDiff, Int.reduceLT, Int.reduceLE, Int.reduceAdd, Int.reduceSub, Int.reduceMul, Int.reduceToNat, reduceIte, reduceCtorEq, Nat.reduceBEq, hfit, lc_fit, scs_fit, fit, ren, gmap, lw_plain, true_or, or_true]
        · simp [uniq, wrB]
        · simp only [go_sem, Nat.reduceAdd, Nat.reduceSub, Nat.reduceLeDiff, Nat.reduceMul, Nat.reduceLT, Nat.reduceEqDiff, Int.reduceLT, Int.reduceLE, Int.reduceAdd, Int.reduceSub, Int.reduceMul, Int.reduceToNat, reduceIte, reduceCtorEq, Nat.reduceBEq, rr40, ren, gmap]
end
section
attribute [local go_sem ↓] lc_len lc_take lc_drop lc_known lc_one lc_rens lc_cells lw_known lw_agg lw_asG scs_known scs_one scs_len
attribute [local go_sem] lt_nat lt_natl lt_lnat lt_ll bool_tf bool_ft
attribute [local go_sem ↓] ecs_len ecs_take ecs_drop ecs_known ecs_one ecs_rens ecs_fit ecs_cells ew_known ew_agg ew_asG ecs_kind ecs_k ecs_l ers_known ers_one ers_len ers_rens ers_fit
set_option maxRecDepth 100000
set_option maxHeartbeats 1000000
def ivl (i n m : Nat) (z : Bool) : V := if z = true then .nils else .sl i 0 n (.exact m)
def ivb (f : Nat → Nat) (n : Nat) (z : Bool) : Option Blk := if z = true then none else some ⟨.ro, scs n f⟩
def Ok (n m : Nat) (z : Bool) : Prop := n ≤ m ∧ (z = true → n = 0)
theorem In_iv {f : Nat → Nat} {n m : Nat} {z : Bool} (h : Ok n m z) : In f n (ivl 0 n m z) (ivb f n z) := by
  cases z
  · exact In.sl n m h.1
  · obtain rfl := h.2 rfl
    exact In.nil
theorem ivl_ren (i n m : Nat) (z : Bool) (g : Nat → Nat) : ren g (ivl i n m z) = ivl (g i) n m z := by cases z <;> rfl
theorem ivl_known (i n m : Nat) (z : Bool) : (ivl i n m z).known = true := by cases z <;> rfl
theorem ivl_one (i n m : Nat) (z : Bool) : (ivl i n m z).one = true := by cases z <;> rfl
theorem wrB_ivb (f : Nat → Nat) (n : Nat) (z : Bool) : wrB (ivb f n z) = false := by cases z <;> rfl
theorem mask_ivb (f : Nat → Nat) (n : Nat) (z : Bool) : (ivb f n z).map (fun b => (⟨.ro, b.cells⟩ : Blk)) = ivb f n z := by cases z <;> rfl
theorem join_ivb (f : Nat → Nat) (n : Nat) (z : Bool) : (some (ivb f n z)).join = ivb f n z := rfl
theorem join_ebg (f : Nat → Nat) (n : Nat) : (some (ebg f n)).join = ebg f n := rfl
theorem ebg_map (f g' : Nat → Nat) (n : Nat) : (ebg f n).map (renB g') = ebg f n := by
  unfold ebg
  split
  · rfl
  · simp only [Option.map_some, renB, ers_rens]
attribute [local go_sem ↓] ivl_known ivl_one lc_take_add lc_drop_add ecs_take_add ecs_drop_add de_known de_one
theorem puts_ro {g : Nat → Nat} : ∀ {h' h'' : Heap} {μ : List Nat} {h : Heap}, h'.all (fun b => !wrB b) = true → h'.length = μ.length → h'.length ≤ h''.length → puts g h' h'' μ h = h ++ (h''.drop h'.length).map (Option.map (renB g))
  | [], h'', μ, h, _, _, _ => by simp [puts]
  | b :: h', [], μ, h, _, _, h3 => by simp at h3
  | b :: h', c :: h'', [], h, _, h2, _ => by simp at h2
  | b :: h', c :: h'', i :: μ, h, h1, h2, h3 => by
    simp only [List.all_cons, Bool.and_eq_true, Bool.not_eq_true'] at h1
    simp only [puts, h1.1, Bool.false_eq_true, if_false, List.length_cons, List.drop_succ_cons]
    exact puts_ro h1.2 (by simpa using h2) (by simpa using h3)
theorem hfit_one {g : Nat → Nat} {p : Nat} {h : Heap} {f : Nat → Nat} {n : Nat} {z : Bool} (hp : h[p]? = some (ivb f n z)) : hfit g h [p] [ivb f n z] := by
  cases z
  · simp only [hfit, hp]
    refine ⟨?_, trivial⟩
    show (Kind.ro = Kind.ro ∨ _) ∧ fit g (scs n f) (scs n f)
    exact ⟨.inl rfl, fit_same (scs_rens ..)⟩
  · exact ⟨trivial, trivial⟩
theorem lines_at (f : Nat → Nat) (n m : Nat) (z : Bool) (hok : Ok n m z) (p : Nat) {h : Heap} (hp : h[p]? = some (ivb f n z)) {R : V → Heap → Prop} (hR : R (.sl h.length 0 (min n 2100) (.exact (min n 2100 + 1))) (h ++ [some ⟨.rw, scs (min n 2100) f ++ lc 77⟩])) : VCall Tryd.prog G 38 [ivl p n m z] h R := by
  refine vcall_at (lines_ f n (min n 2100) (ivl 0 n m z) (ivb f n z) (In_iv hok) rfl (fun v k => v = .sl 1 0 (min n 2100) (.exact (min n 2100 + 1)) ∧ k = [ivb f n z, some ⟨.rw, scs (min n 2100) f ++ lc 77⟩]) ⟨rfl, rfl⟩) [p] ?_ (hfit_one hp) ?_ ?_ ?_
  · intro i hi
    obtain rfl : i = p := by simpa using hi
    exact (List.getElem?_eq_some_iff.1 hp).1
  · simp [uniq]
  · simp only [rens, ivl_ren, gmap]
  · rintro v k ⟨rfl, rfl⟩
    rw [puts_ro (by simp [wrB_ivb]) rfl (by simp)]
    simpa [ren, gmap, renB, rens_append, scs_rens, lc_rens] using hR
theorem doc_lines_at (f : Nat → Nat) (hf : ∀ j, f j < 115792089237316195423570985008687907853269984665640564039457584007913129639936) (n m : Nat) (z : Bool) (hok : Ok n m z) (p : Nat) {h : Heap} (hp : h[p]? = some (ivb f n z)) {R : V → Heap → Prop} (hR : R (de h.length (min n 2100)) (h ++ [ebg (fun j => f j % ell) (min n 2100)])) : VCall Tryd.prog G 40 [ivl p n m z] h R := by
  refine vcall_at (doc_lines f hf n (min n 2100) (ivl 0 n m z) (ivb f n z) (In_iv hok) rfl (fun v k => v = de 1 (min n 2100) ∧ k = [ivb f n z, ebg (fun j => f j % ell) (min n 2100)]) ⟨rfl, rfl⟩) [p] ?_ (hfit_one hp) ?_ ?_ ?_
  · intro i hi
    obtain rfl : i = p := by simpa using hi
    exact (List.getElem?_eq_some_iff.1 hp).1
  · simp [uniq]
  · simp only [rens, ivl_ren, gmap]
  · rintro v k ⟨rfl, rfl⟩
    rw [puts_ro (by simp [wrB_ivb]) rfl (by simp)]
    have e : ren (gmap [p] h.length) (de 1 (min n 2100)) = de h.length (min n 2100) := by
      unfold de; split <;> simp [ren, gmap]
    rw [e]
    simpa [ebg_map] using hR
theorem de_cells (b n : Nat) : cellsOf (de b n) = [de b n] := by unfold de; split <;> rfl
theorem ecs_ex (k : Nat) : ∃ l : List V, l.length = 26 ∧ ecs k = l := ⟨_, ecs_len k, rfl⟩
def bfit (g : Nat → Nat) : Option Blk → Option Blk → Prop
  | none, _ => True
  | some b1, some b => (b1.kind = b.kind ∨ b1.kind = .ro) ∧ fit g b1.cells b.cells
  | some _, none => False
theorem hfit_cons {g : Nat → Nat} {h : Heap} {i : Nat} {μ : List Nat} {b : Option Blk} {h' : Heap} {c : Option Blk} (hc : h[i]? = some c) (hb : bfit g b c) (hr : hfit g h μ h') : hfit g h (i :: μ) (b :: h') := by
  cases b with
  | none => exact ⟨trivial, hr⟩
  | some b1 =>
    cases c with
    | none => exact hb.elim
    | some c => simp only [hfit, hc]; exact ⟨hb, hr⟩
theorem hfit_cons_none {g : Nat → Nat} {h : Heap} {i : Nat} {μ : List Nat} {h' : Heap} (hr : hfit g h μ h') : hfit g h (i :: μ) (none :: h') := ⟨trivial, hr⟩
theorem hfit_nil {g : Nat → Nat} {h : Heap} : hfit g h [] [] := trivial
theorem bfit_same {g : Nat → Nat} {k : Kind} {c : List V} (h : rens g c = c) : bfit g (some ⟨.ro, c⟩) (some ⟨k, c⟩) := ⟨.inr rfl, fit_same h⟩
theorem bfit_eb {g f : Nat → Nat} {n : Nat} : bfit g (eb f n) (ebg f n) := by
  unfold eb ebg
  split
  · trivial
  · exact bfit_same (ers_rens ..)
theorem bfit_eb' {g f : Nat → Nat} {n : Nat} : bfit g (eb f n) (eb f n) := by
  unfold eb
  split
  · trivial
  · exact bfit_same (ers_rens ..)
theorem bfit_ivb {g f : Nat → Nat} {n : Nat} {z : Bool} : bfit g (ivb f n z) (ivb f n z) := by
  cases z
  · exact bfit_same (scs_rens ..)
  · trivial
theorem bfit_sm {g f : Nat → Nat} {n m : Nat} {k : Kind} : bfit g (some ⟨.ro, scs n f ++ lc m⟩) (some ⟨k, scs n f ++ lc m⟩) := bfit_same (by rw [rens_append, scs_rens, lc_rens])
def cas (Q P : Nat) (g h a b l r : V) (ea eb : Nat) (s given lab n : V) : List V := lc Q ++ (lc P ++ (g :: h :: a :: b :: l :: r :: (lc ea ++ (lc eb ++ [s, given, lab, n]))))
theorem statement (g h : Nat → Nat) (hg : ∀ j, g j < 115792089237316195423570985008687907853269984665640564039457584007913129639936) (hh : ∀ j, h j < 115792089237316195423570985008687907853269984665640564039457584007913129639936) (Q' P ea eb' nG mG nH mH nA mA nB mB nL mL nR mR nU mU : Nat) (zG zH zA zB zL zR zU : Bool) (hG : Ok nG mG zG) (hH : Ok nH mH zH) (hP : P < 115792089237316195423570985008687907853269984665640564039457584007913129639936) (hQ' : Q' < 115792089237316195423570985008687907853269984665640564039457584007913129639936) (sc lab : V) (hsc : ∀ f, ren f sc = sc) (hlab : ∀ f, ren f lab = lab) (hsk : sc.known = true) (hlk : lab.known = true) (N : Int) (Q : V → Heap → Prop)
    (hQ : Q (.tup [stL P Q' (.sl 7 0 (min nG 2100) (.exact (min nG 2100 + 1))) (.sl 8 0 (min nH 2100) (.exact (min nH 2100 + 1))), stE (P % ell) (Q' % ell) (de 9 (min nG 2100)) (de 10 (min nH 2100))])
      [ivb g nG zG, ivb h nH zH, none, none, none, none, none, some ⟨.ro, scs (min nG 2100) g ++ lc 77⟩, some ⟨.ro, scs (min nH 2100) h ++ lc 77⟩, eb (fun j => g j % ell) (min nG 2100), eb (fun j => h j % ell) (min nH 2100)]) :
    VCall Tryd.prog G 7 [.agg (cas Q' P (ivl 0 nG mG zG) (ivl 1 nH mH zH) (ivl 2 nA mA zA) (ivl 3 nB mB zB) (ivl 4 nL mL zL) (ivl 5 nR mR zR) ea eb' sc (ivl 6 nU mU zU) lab (.int .i64 N))] [ivb g nG zG, ivb h nH zH, none, none, none, none, none] Q := by
  refine vcall_body Tryd.func7 nm7 code7 nt7 ?_
  unfold cas
  have b1 : ∀ r, List.take 8 (lc P ++ lc Q' ++ r) = lc P ++ lc Q' := fun _ => rfl
  have b2 : ∀ a b, List.drop 9 (lc P ++ lc Q' ++ [a, b]) = [b] := fun _ _ => rfl
  have b3 : ∀ a b, List.take 9 (lc P ++ lc Q' ++ [a] ++ b) = lc P ++ lc Q' ++ [a] := fun _ _ => rfl
  have b4 : ∀ a b, List.drop 10 (lc P ++ lc Q' ++ [a] ++ [b]) = [] := fun _ _ => rfl
  have hl : (ecs (P % ell) ++ ecs (Q' % ell)).length = 52 := by rw [List.length_append, ecs_len, ecs_len]
  have b5 : ∀ r, List.take 52 (ecs (P % ell) ++ ecs (Q' % ell) ++ r) = ecs (P % ell) ++ ecs (Q' % ell) := fun r => List.take_left' hl
  have b6 : ∀ a b, List.drop 53 (ecs (P % ell) ++ ecs (Q' % ell) ++ [a, b]) = [b] := fun a b => by
    rw [List.drop_append, hl]
    rw [List.drop_eq_nil_of_le (by omega)]
    rfl
  have b7 : ∀ a b, List.take 53 (ecs (P % ell) ++ ecs (Q' % ell) ++ [a] ++ b) = ecs (P % ell) ++ ecs (Q' % ell) ++ [a] := fun a b => List.take_left' (by rw [List.length_append, hl]; rfl)
  have b8 : ∀ a b, List.drop 54 (ecs (P % ell) ++ ecs (Q' % ell) ++ [a] ++ [b]) = [] := fun a b => List.drop_eq_nil_of_le (by rw [List.length_append, List.length_append, hl]; simp)
  refine run_driveS 80 ?_
  simp only [go_sem, Nat.reduceAdd, Nat.reduceSub, Nat.reduceLeDiff, Nat.reduceMul, Nat.reduceLT, Nat.reduceEqDiff, Int.reduceLT, Int.reduceLE, Int.reduceAdd, Int.reduceSub, Int.reduceMul, Int.reduceToNat, reduceIte, reduceCtorEq, Nat.reduceBEq, v7, v7_0]
  refine run_drw (by kernel_rfl) ?_
  refine drun_drive 40 (p := (_, _)) ?_
  simp only [go_sem, Nat.reduceAdd, Nat.reduceSub, Nat.reduceLeDiff, Nat.reduceMul, Nat.reduceLT, Nat.reduceEqDiff, Int.reduceLT, Int.reduceLE, Int.reduceAdd, Int.reduceSub, Int.reduceMul, Int.reduceToNat, reduceIte, reduceCtorEq, Nat.reduceBEq, v7_1, hsk, hlk]
  refine drun_call' ?_
  simp only [go_sem, Nat.reduceAdd, Nat.reduceSub, Nat.reduceLeDiff, Nat.reduceMul, Nat.reduceLT, Nat.reduceEqDiff, Int.reduceLT, Int.reduceLE, Int.reduceAdd, Int.reduceSub, Int.reduceMul, Int.reduceToNat, reduceIte, reduceCtorEq, Nat.reduceBEq, calV]
  refine line_ _ ?_
  refine drun_drive 40 (p := (_, _)) ?_
  simp only [go_sem, Nat.reduceAdd, Nat.reduceSub, Nat.reduceLeDiff, Nat.reduceMul, Nat.reduceLT, Nat.reduceEqDiff, Int.reduceLT, Int.reduceLE, Int.reduceAdd, Int.reduceSub, Int.reduceMul, Int.reduceToNat, reduceIte, reduceCtorEq, Nat.reduceBEq]
  refine drun_call' ?_
  simp only [go_sem, Nat.reduceAdd, Nat.reduceSub, Nat.reduceLeDiff, Nat.reduceMul, Nat.reduceLT, Nat.reduceEqDiff, Int.reduceLT, Int.reduceLE, Int.reduceAdd, Int.reduceSub, Int.reduceMul, Int.reduceToNat, reduceIte, reduceCtorEq, Nat.reduceBEq, calV]
  refine line_ _ ?_
  refine drun_drive 40 (p := (_, _)) ?_
  simp only [go_sem, Nat.reduceAdd, Nat.reduceSub, Nat.reduceLeDiff, Nat.reduceMul, Nat.reduceLT, Nat.reduceEqDiff, Int.reduceLT, Int.reduceLE, Int.reduceAdd, Int.reduceSub, Int.reduceMul, Int.reduceToNat, reduceIte, reduceCtorEq, Nat.reduceBEq]
  refine drun_call' ?_
  simp only [go_sem, Nat.reduceAdd, Nat.reduceSub, Nat.reduceLeDiff, Nat.reduceMul, Nat.reduceLT, Nat.reduceEqDiff, Int.reduceLT, Int.reduceLE, Int.reduceAdd, Int.reduceSub, Int.reduceMul, Int.reduceToNat, reduceIte, reduceCtorEq, Nat.reduceBEq, calV, maskH, List.mapIdx_cons, List.mapIdx_nil, List.contains_cons, List.contains_nil, Bool.or_false, Bool.or_true, Bool.false_or, Bool.true_or]
  refine lines_at g nG mG zG hG 0 rfl ?_
  refine drun_drive 40 (p := (_, _)) ?_
  simp only [go_sem, Nat.reduceAdd, Nat.reduceSub, Nat.reduceLeDiff, Nat.reduceMul, Nat.reduceLT, Nat.reduceEqDiff, Int.reduceLT, Int.reduceLE, Int.reduceAdd, Int.reduceSub, Int.reduceMul, Int.reduceToNat, reduceIte, reduceCtorEq, Nat.reduceBEq, restore, Option.join_some, maskH, List.mapIdx_cons, List.mapIdx_nil, List.contains_cons, List.contains_nil, Bool.or_false, Bool.or_true, Bool.false_or, Bool.true_or]
  refine drun_call' ?_
  simp only [go_sem, Nat.reduceAdd, Nat.reduceSub, Nat.reduceLeDiff, Nat.reduceMul, Nat.reduceLT, Nat.reduceEqDiff, Int.reduceLT, Int.reduceLE, Int.reduceAdd, Int.reduceSub, Int.reduceMul, Int.reduceToNat, reduceIte, reduceCtorEq, Nat.reduceBEq, calV, maskH, List.mapIdx_cons, List.mapIdx_nil, List.contains_cons, List.contains_nil, Bool.or_false, Bool.or_true, Bool.false_or, Bool.true_or]
  refine lines_at h nH mH zH hH 1 rfl ?_
  refine drun_drive 40 (p := (_, _)) ?_
  simp only [go_sem, Nat.reduceAdd, Nat.reduceSub, Nat.reduceLeDiff, Nat.reduceMul, Nat.reduceLT, Nat.reduceEqDiff, Int.reduceLT, Int.reduceLE, Int.reduceAdd, Int.reduceSub, Int.reduceMul, Int.reduceToNat, reduceIte, reduceCtorEq, Nat.reduceBEq, b1, b2, b3, b4, restore, Option.join_some, maskH, List.mapIdx_cons, List.mapIdx_nil, List.contains_cons, List.contains_nil, Bool.or_false, Bool.or_true, Bool.false_or, Bool.true_or]
  refine drun_call' ?_
  simp only [go_sem, Nat.reduceAdd, Nat.reduceSub, Nat.reduceLeDiff, Nat.reduceMul, Nat.reduceLT, Nat.reduceEqDiff, Int.reduceLT, Int.reduceLE, Int.reduceAdd, Int.reduceSub, Int.reduceMul, Int.reduceToNat, reduceIte, reduceCtorEq, Nat.reduceBEq, calV, maskH, List.mapIdx_cons, List.mapIdx_nil, List.contains_cons, List.contains_nil, Bool.or_false, Bool.or_true, Bool.false_or, Bool.true_or]
  refine doc_line _ hP ?_
  refine drun_drive 40 (p := (_, _)) ?_
  simp only [go_sem, Nat.reduceAdd, Nat.reduceSub, Nat.reduceLeDiff, Nat.reduceMul, Nat.reduceLT, Nat.reduceEqDiff, Int.reduceLT, Int.reduceLE, Int.reduceAdd, Int.reduceSub, Int.reduceMul, Int.reduceToNat, reduceIte, reduceCtorEq, Nat.reduceBEq, restore, Option.join_some, maskH, List.mapIdx_cons, List.mapIdx_nil, List.contains_cons, List.contains_nil, Bool.or_false, Bool.or_true, Bool.false_or, Bool.true_or, Nat.reduceBEq]
  refine drun_call' ?_
  simp only [go_sem, Nat.reduceAdd, Nat.reduceSub, Nat.reduceLeDiff, Nat.reduceMul, Nat.reduceLT, Nat.reduceEqDiff, Int.reduceLT, Int.reduceLE, Int.reduceAdd, Int.reduceSub, Int.reduceMul, Int.reduceToNat, reduceIte, reduceCtorEq, Nat.reduceBEq, calV, maskH, List.mapIdx_cons, List.mapIdx_nil, List.contains_cons, List.contains_nil, Bool.or_false, Bool.or_true, Bool.false_or, Bool.true_or]
  refine doc_line _ hQ' ?_
  refine drun_drive 40 (p := (_, _)) ?_
  simp only [go_sem, Nat.reduceAdd, Nat.reduceSub, Nat.reduceLeDiff, Nat.reduceMul, Nat.reduceLT, Nat.reduceEqDiff, Int.reduceLT, Int.reduceLE, Int.reduceAdd, Int.reduceSub, Int.reduceMul, Int.reduceToNat, reduceIte, reduceCtorEq, Nat.reduceBEq, restore, Option.join_some, maskH, List.mapIdx_cons, List.mapIdx_nil, List.contains_cons, List.contains_nil, Bool.or_false, Bool.or_true, Bool.false_or, Bool.true_or, Nat.reduceBEq]
  refine drun_call' ?_
  simp only [go_sem, Nat.reduceAdd, Nat.reduceSub, Nat.reduceLeDiff, Nat.reduceMul, Nat.reduceLT, Nat.reduceEqDiff, Int.reduceLT, Int.reduceLE, Int.reduceAdd, Int.reduceSub, Int.reduceMul, Int.reduceToNat, reduceIte, reduceCtorEq, Nat.reduceBEq, calV, maskH, List.mapIdx_cons, List.mapIdx_nil, List.contains_cons, List.contains_nil, Bool.or_false, Bool.or_true, Bool.false_or, Bool.true_or]
  refine doc_lines_at g hg nG mG zG hG 0 rfl ?_
  refine drun_drive 40 (p := (_, _)) ?_
  simp only [go_sem, Nat.reduceAdd, Nat.reduceSub, Nat.reduceLeDiff, Nat.reduceMul, Nat.reduceLT, Nat.reduceEqDiff, Int.reduceLT, Int.reduceLE, Int.reduceAdd, Int.reduceSub, Int.reduceMul, Int.reduceToNat, reduceIte, reduceCtorEq, Nat.reduceBEq, restore, Option.join_some, maskH, List.mapIdx_cons, List.mapIdx_nil, List.contains_cons, List.contains_nil, Bool.or_false, Bool.or_true, Bool.false_or, Bool.true_or, Nat.reduceBEq]
  refine drun_call' ?_
  simp only [go_sem, Nat.reduceAdd, Nat.reduceSub, Nat.reduceLeDiff, Nat.reduceMul, Nat.reduceLT, Nat.reduceEqDiff, Int.reduceLT, Int.reduceLE, Int.reduceAdd, Int.reduceSub, Int.reduceMul, Int.reduceToNat, reduceIte, reduceCtorEq, Nat.reduceBEq, calV, maskH, List.mapIdx_cons, List.mapIdx_nil, List.contains_cons, List.contains_nil, Bool.or_false, Bool.or_true, Bool.false_or, Bool.true_or]
  refine doc_lines_at h hh nH mH zH hH 1 rfl ?_
  refine drun_drive 40 (p := (_, _)) ?_
  simp only [go_sem, Nat.reduceAdd, Nat.reduceSub, Nat.reduceLeDiff, Nat.reduceMul, Nat.reduceLT, Nat.reduceEqDiff, Int.reduceLT, Int.reduceLE, Int.reduceAdd, Int.reduceSub, Int.reduceMul, Int.reduceToNat, reduceIte, reduceCtorEq, Nat.reduceBEq, restore, Option.join_some, maskH, List.mapIdx_cons, List.mapIdx_nil, List.contains_cons, List.contains_nil, Bool.or_false, Bool.or_true, Bool.false_or, Bool.true_or, Nat.reduceBEq, de_cells, b5, b6, b7, b8]
  refine drun_end ?_
  refine run_ret_drop Tryd.func7 res7 [0, 1, 2, 3, 4, 5, 6, 10, 11, 12, 13] _ _ rfl (by simp) ?_ ?_ ?_ hQ
  · exact hfit_cons rfl bfit_ivb (hfit_cons rfl bfit_ivb (hfit_cons_none (hfit_cons_none (hfit_cons_none (hfit_cons_none (hfit_cons_none (hfit_cons rfl bfit_sm (hfit_cons rfl bfit_sm (hfit_cons rfl bfit_eb (hfit_cons rfl bfit_eb hfit_nil))))))))))
  · simp [uniq, wrB_ivb, wrB_eb, wrB]
  · simp only [go_sem, Nat.reduceAdd, Nat.reduceSub, Nat.reduceLeDiff, Nat.reduceMul, Nat.reduceLT, Nat.reduceEqDiff, Int.reduceLT, Int.reduceLE, Int.reduceAdd, Int.reduceSub, Int.reduceMul, Int.reduceToNat, reduceIte, reduceCtorEq, Nat.reduceBEq, rr7, stL_ren, stE_ren, ren, rens, gmap, de_ren, stL, stE, rens_append, lc_rens, ecs_rens, List.append_assoc]
end
section
attribute [local go_sem ↓] lc_len lc_take lc_drop lc_known lc_one lc_rens lc_cells lw_known lw_agg lw_asG scs_known scs_one scs_len
attribute [local go_sem] lt_nat lt_natl lt_lnat lt_ll bool_tf bool_ft
attribute [local go_sem ↓] ecs_len ecs_take ecs_drop ecs_known ecs_one ecs_rens ecs_fit ecs_cells ew_known ew_agg ew_asG ecs_kind ecs_k ecs_l ers_known ers_one ers_len ers_rens ers_fit
set_option maxRecDepth 100000
set_option maxHeartbeats 1000000
attribute [local go_sem ↓] ivl_known ivl_one lc_take_add lc_drop_add ecs_take_add ecs_drop_add de_known de_one
theorem argument (l r : Nat → Nat) (hl : ∀ j, l j < 115792089237316195423570985008687907853269984665640564039457584007913129639936) (hr : ∀ j, r j < 115792089237316195423570985008687907853269984665640564039457584007913129639936) (Q' P ea eb' nG mG nH mH nA mA nB mB nL mL nR mR nU mU : Nat) (zG zH zA zB zL zR zU : Bool) (hL : Ok nL mL zL) (hR : Ok nR mR zR) (hA : ea < 115792089237316195423570985008687907853269984665640564039457584007913129639936) (hB : eb' < 115792089237316195423570985008687907853269984665640564039457584007913129639936) (sc lab : V) (hsk : sc.known = true) (hlk : lab.known = true) (N : Int) (Q : V → Heap → Prop)
    (hQ : Q (.tup [arL (.sl 7 0 (min nL 2100) (.exact (min nL 2100 + 1))) (.sl 8 0 (min nR 2100) (.exact (min nR 2100 + 1))) ea eb', arE (de 9 (min nL 2100)) (de 10 (min nR 2100)) (ea % ell) (eb' % ell)])
      [none, none, none, none, ivb l nL zL, ivb r nR zR, none, some ⟨.ro, scs (min nL 2100) l ++ lc 77⟩, some ⟨.ro, scs (min nR 2100) r ++ lc 77⟩, eb (fun j => l j % ell) (min nL 2100), eb (fun j => r j % ell) (min nR 2100)]) :
    VCall Tryd.prog G 8 [.agg (cas Q' P (ivl 0 nG mG zG) (ivl 1 nH mH zH) (ivl 2 nA mA zA) (ivl 3 nB mB zB) (ivl 4 nL mL zL) (ivl 5 nR mR zR) ea eb' sc (ivl 6 nU mU zU) lab (.int .i64 N))] [none, none, none, none, ivb l nL zL, ivb r nR zR, none] Q := by
  have b1 : List.take 4 (lc ea) = lc ea := rfl
  have b2 : List.take 4 (lc eb') = lc eb' := rfl
  have b3 : ∀ r, List.take 4 (lc ea ++ r) = lc ea := fun _ => rfl
  have b4 : ∀ r, List.take 4 (lc eb' ++ r) = lc eb' := fun _ => rfl
  refine vcall_body Tryd.func8 nm8 code8 nt8 ?_
  unfold cas
  refine run_driveS 80 ?_
  simp only [go_sem, Nat.reduceAdd, Nat.reduceSub, Nat.reduceLeDiff, Nat.reduceMul, Nat.reduceLT, Nat.reduceEqDiff, Int.reduceLT, Int.reduceLE, Int.reduceAdd, Int.reduceSub, Int.reduceMul, Int.reduceToNat, reduceIte, reduceCtorEq, Nat.reduceBEq, v8, v8_0]
  refine run_drw (by kernel_rfl) ?_
  refine drun_drive 40 (p := (_, _)) ?_
  simp only [go_sem, Nat.reduceAdd, Nat.reduceSub, Nat.reduceLeDiff, Nat.reduceMul, Nat.reduceLT, Nat.reduceEqDiff, Int.reduceLT, Int.reduceLE, Int.reduceAdd, Int.reduceSub, Int.reduceMul, Int.reduceToNat, reduceIte, reduceCtorEq, Nat.reduceBEq, v8_1, hsk, hlk, b1, b2, b3, b4]
  refine drun_call' ?_
  simp only [go_sem, Nat.reduceAdd, Nat.reduceSub, Nat.reduceLeDiff, Nat.reduceMul, Nat.reduceLT, Nat.reduceEqDiff, Int.reduceLT, Int.reduceLE, Int.reduceAdd, Int.reduceSub, Int.reduceMul, Int.reduceToNat, reduceIte, reduceCtorEq, Nat.reduceBEq, calV, restore, Option.join_some, maskH, List.mapIdx_cons, List.mapIdx_nil, List.contains_cons, List.contains_nil, Bool.or_false, Bool.or_true, Bool.false_or, Bool.true_or, Nat.reduceBEq]
  refine lines_at l nL mL zL hL 4 rfl ?_
  refine drun_drive 40 (p := (_, _)) ?_
  simp only [go_sem, Nat.reduceAdd, Nat.reduceSub, Nat.reduceLeDiff, Nat.reduceMul, Nat.reduceLT, Nat.reduceEqDiff, Int.reduceLT, Int.reduceLE, Int.reduceAdd, Int.reduceSub, Int.reduceMul, Int.reduceToNat, reduceIte, reduceCtorEq, Nat.reduceBEq, restore, Option.join_some, maskH, List.mapIdx_cons, List.mapIdx_nil, List.contains_cons, List.contains_nil, Bool.or_false, Bool.or_true, Bool.false_or, Bool.true_or, Nat.reduceBEq, b1, b2, b3, b4, de_cells, b1, b2, b3, b4]
  refine drun_call' ?_
  simp only [go_sem, Nat.reduceAdd, Nat.reduceSub, Nat.reduceLeDiff, Nat.reduceMul, Nat.reduceLT, Nat.reduceEqDiff, Int.reduceLT, Int.reduceLE, Int.reduceAdd, Int.reduceSub, Int.reduceMul, Int.reduceToNat, reduceIte, reduceCtorEq, Nat.reduceBEq, calV, restore, Option.join_some, maskH, List.mapIdx_cons, List.mapIdx_nil, List.contains_cons, List.contains_nil, Bool.or_false, Bool.or_true, Bool.false_or, Bool.true_or, Nat.reduceBEq]
  refine lines_at r nR mR zR hR 5 rfl ?_
  refine drun_drive 40 (p := (_, _)) ?_
  simp only [go_sem, Nat.reduceAdd, Nat.reduceSub, Nat.reduceLeDiff, Nat.reduceMul, Nat.reduceLT, Nat.reduceEqDiff, Int.reduceLT, Int.reduceLE, Int.reduceAdd, Int.reduceSub, Int.reduceMul, Int.reduceToNat, reduceIte, reduceCtorEq, Nat.reduceBEq, restore, Option.join_some, maskH, List.mapIdx_cons, List.mapIdx_nil, List.contains_cons, List.contains_nil, Bool.or_false, Bool.or_true, Bool.false_or, Bool.true_or, Nat.reduceBEq, b1, b2, b3, b4, de_cells, b1, b2, b3, b4]
  refine drun_call' ?_
  simp only [go_sem, Nat.reduceAdd, Nat.reduceSub, Nat.reduceLeDiff, Nat.reduceMul, Nat.reduceLT, Nat.reduceEqDiff, Int.reduceLT, Int.reduceLE, Int.reduceAdd, Int.reduceSub, Int.reduceMul, Int.reduceToNat, reduceIte, reduceCtorEq, Nat.reduceBEq, calV, restore, Option.join_some, maskH, List.mapIdx_cons, List.mapIdx_nil, List.contains_cons, List.contains_nil, Bool.or_false, Bool.or_true, Bool.false_or, Bool.true_or, Nat.reduceBEq]
  refine doc_lines_at l hl nL mL zL hL 4 rfl ?_
  refine drun_drive 40 (p := (_, _)) ?_
  simp only [go_sem, Nat.reduceAdd, Nat.reduceSub, Nat.reduceLeDiff, Nat.reduceMul, Nat.reduceLT, Nat.reduceEqDiff, Int.reduceLT, Int.reduceLE, Int.reduceAdd, Int.reduceSub, Int.reduceMul, Int.reduceToNat, reduceIte, reduceCtorEq, Nat.reduceBEq, restore, Option.join_some, maskH, List.mapIdx_cons, List.mapIdx_nil, List.contains_cons, List.contains_nil, Bool.or_false, Bool.or_true, Bool.false_or, Bool.true_or, Nat.reduceBEq, b1, b2, b3, b4, de_cells, b1, b2, b3, b4]
  refine drun_call' ?_
  simp only [go_sem, Nat.reduceAdd, Nat.reduceSub, Nat.reduceLeDiff, Nat.reduceMul, Nat.reduceLT, Nat.reduceEqDiff, Int.reduceLT, Int.reduceLE, Int.reduceAdd, Int.reduceSub, Int.reduceMul, Int.reduceToNat, reduceIte, reduceCtorEq, Nat.reduceBEq, calV, restore, Option.join_some, maskH, List.mapIdx_cons, List.mapIdx_nil, List.contains_cons, List.contains_nil, Bool.or_false, Bool.or_true, Bool.false_or, Bool.true_or, Nat.reduceBEq]
  refine doc_lines_at r hr nR mR zR hR 5 rfl ?_
  refine drun_drive 40 (p := (_, _)) ?_
  simp only [go_sem, Nat.reduceAdd, Nat.reduceSub, Nat.reduceLeDiff, Nat.reduceMul, Nat.reduceLT, Nat.reduceEqDiff, Int.reduceLT, Int.reduceLE, Int.reduceAdd, Int.reduceSub, Int.reduceMul, Int.reduceToNat, reduceIte, reduceCtorEq, Nat.reduceBEq, restore, Option.join_some, maskH, List.mapIdx_cons, List.mapIdx_nil, List.contains_cons, List.contains_nil, Bool.or_false, Bool.or_true, Bool.false_or, Bool.true_or, Nat.reduceBEq, b1, b2, b3, b4, de_cells, b1, b2, b3, b4]
  refine drun_call' ?_
  simp only [go_sem, Nat.reduceAdd, Nat.reduceSub, Nat.reduceLeDiff, Nat.reduceMul, Nat.reduceLT, Nat.reduceEqDiff, Int.reduceLT, Int.reduceLE, Int.reduceAdd, Int.reduceSub, Int.reduceMul, Int.reduceToNat, reduceIte, reduceCtorEq, Nat.reduceBEq, calV, restore, Option.join_some, maskH, List.mapIdx_cons, List.mapIdx_nil, List.contains_cons, List.contains_nil, Bool.or_false, Bool.or_true, Bool.false_or, Bool.true_or, Nat.reduceBEq]
  refine ref_least ea hA ?_
  refine drun_drive 40 (p := (_, _)) ?_
  simp only [go_sem, Nat.reduceAdd, Nat.reduceSub, Nat.reduceLeDiff, Nat.reduceMul, Nat.reduceLT, Nat.reduceEqDiff, Int.reduceLT, Int.reduceLE, Int.reduceAdd, Int.reduceSub, Int.reduceMul, Int.reduceToNat, reduceIte, reduceCtorEq, Nat.reduceBEq, restore, Option.join_some, maskH, List.mapIdx_cons, List.mapIdx_nil, List.contains_cons, List.contains_nil, Bool.or_false, Bool.or_true, Bool.false_or, Bool.true_or, Nat.reduceBEq, de_cells, b1, b2, b3, b4]
  refine drun_call' ?_
  simp only [go_sem, Nat.reduceAdd, Nat.reduceSub, Nat.reduceLeDiff, Nat.reduceMul, Nat.reduceLT, Nat.reduceEqDiff, Int.reduceLT, Int.reduceLE, Int.reduceAdd, Int.reduceSub, Int.reduceMul, Int.reduceToNat, reduceIte, reduceCtorEq, Nat.reduceBEq, calV, restore, Option.join_some, maskH, List.mapIdx_cons, List.mapIdx_nil, List.contains_cons, List.contains_nil, Bool.or_false, Bool.or_true, Bool.false_or, Bool.true_or, Nat.reduceBEq]
  refine ref_least eb' hB ?_
  refine drun_drive 40 (p := (_, _)) ?_
  simp only [go_sem, Nat.reduceAdd, Nat.reduceSub, Nat.reduceLeDiff, Nat.reduceMul, Nat.reduceLT, Nat.reduceEqDiff, Int.reduceLT, Int.reduceLE, Int.reduceAdd, Int.reduceSub, Int.reduceMul, Int.reduceToNat, reduceIte, reduceCtorEq, Nat.reduceBEq, restore, Option.join_some, maskH, List.mapIdx_cons, List.mapIdx_nil, List.contains_cons, List.contains_nil, Bool.or_false, Bool.or_true, Bool.false_or, Bool.true_or, Nat.reduceBEq, de_cells, b1, b2, b3, b4]
  refine drun_end ?_
  refine run_ret_drop Tryd.func8 res8 [0, 1, 2, 3, 4, 5, 6, 10, 11, 12, 13] _ _ rfl (by simp) ?_ ?_ ?_ hQ
  · exact hfit_cons_none (hfit_cons_none (hfit_cons_none (hfit_cons_none (hfit_cons rfl bfit_ivb (hfit_cons rfl bfit_ivb (hfit_cons_none (hfit_cons rfl bfit_sm (hfit_cons rfl bfit_sm (hfit_cons rfl bfit_eb (hfit_cons rfl bfit_eb hfit_nil))))))))))
  · simp [uniq, wrB_ivb, wrB_eb, wrB]
  · simp only [go_sem, Nat.reduceAdd, Nat.reduceSub, Nat.reduceLeDiff, Nat.reduceMul, Nat.reduceLT, Nat.reduceEqDiff, Int.reduceLT, Int.reduceLE, Int.reduceAdd, Int.reduceSub, Int.reduceMul, Int.reduceToNat, reduceIte, reduceCtorEq, Nat.reduceBEq, rr8, ren, rens, gmap, de_ren, arL, arE, rens_append, lc_rens, ecs_rens, List.append_assoc]
end
end Go.Vs.Tryd
namespace Go.Vs.Tryd
instance nzell : NeZero ell := ⟨by decide⟩
def cF (n : Nat) : _root_.Fin ell := _root_.Fin.ofNat ell n
theorem cF_val (n : Nat) : (cF n).val = n % ell := rfl
theorem cF_iff {a b : Nat} : cF a = cF b ↔ a % ell = b % ell := by
  constructor
  · intro h
    have := congrArg _root_.Fin.val h
    rwa [cF_val, cF_val] at this
  · intro h
    apply _root_.Fin.ext
    rw [cF_val, cF_val, h]
theorem cF_mod (a : Nat) : cF (a % ell) = cF a := cF_iff.2 (Nat.mod_mod _ _)
theorem cF_add (a b : Nat) : cF (a + b) = cF a + cF b := by
  apply _root_.Fin.ext
  rw [_root_.Fin.val_add, cF_val, cF_val, cF_val, ← Nat.add_mod]
theorem cF_mul (a b : Nat) : cF (a * b) = cF a * cF b := by
  apply _root_.Fin.ext
  rw [_root_.Fin.val_mul, cF_val, cF_val, cF_val, ← Nat.mul_mod]
theorem cF_zero : cF 0 = 0 := rfl
theorem cF_self : cF ell = 0 := by
  apply _root_.Fin.ext
  rw [cF_val, Nat.mod_self]
  rfl
theorem f_neg {p : Nat} [NeZero p] (x y z : _root_.Fin p) (h : x + y = z) (hz : z = 0) : x = -y := by grind
theorem cF_neg (a : Nat) : cF (ell - a % ell) = - cF a := by
  refine f_neg _ _ (cF ell) ?_ cF_self
  rw [← cF_mod a, ← cF_add]
  congr 1
  have := mod_lt' a
  omega
theorem cF_m1 : cF (ell - 1) = - cF 1 := by
  have := cF_neg 1
  rwa [show 1 % ell = 1 from rfl] at this
theorem cF_one : cF 1 = 1 := rfl
def al (x y : Nat → Nat) (j : Nat) : Nat := if j % 2 = 0 then x (j / 2) else y (j / 2)
theorem al_even (x y : Nat → Nat) (j : Nat) : al x y (2 * j) = x j := by rw [al, if_pos (by omega), show 2 * j / 2 = j by omega]
theorem al_odd (x y : Nat → Nat) (j : Nat) : al x y (2 * j + 1) = y j := by rw [al, if_neg (by omega), show (2 * j + 1) / 2 = j by omega]
theorem sm_al (k1 p1 k2 p2 : Nat → Nat) : ∀ m, sm (fun j => al k1 k2 j * al p1 p2 j) (2 * m) = sm (fun j => k1 j * p1 j + k2 j * p2 j) m
  | 0 => rfl
  | m + 1 => by
    rw [show 2 * (m + 1) = 2 * m + 1 + 1 by omega, sm, sm, sm, sm_al k1 p1 k2 p2 m, al_even, al_even, al_odd, al_odd, add_l]
    congr 1
    omega
theorem f_pl {p : Nat} [NeZero p] (x l q r s a b : _root_.Fin p) (h : x + (s + (a + b)) = (a + q + b) + r) : x + s = q + r := by grind
theorem pl_sum (Lf Rf us : Nat → Nat) (N : Nat) : ∀ m P, m ≤ N → cF (pl Lf Rf us N m P) + cF (sm (fun j => Lf j * (us j * us j) + Rf j * (linv (us j) * linv (us j))) (N - m)) = cF P + cF (sm (fun j => Lf j * (us j * us j) + Rf j * (linv (us j) * linv (us j))) N)
  | 0, P, _ => rfl
  | m + 1, P, h => by
    have ih := pl_sum Lf Rf us N m (((Lf (N - 1 - m) * (us (N - 1 - m) * us (N - 1 - m) % ell) % ell + P) % ell + Rf (N - 1 - m) * (linv (us (N - 1 - m)) * linv (us (N - 1 - m)) % ell) % ell) % ell) (by omega)
    rw [show N - m = (N - (m + 1)) + 1 by omega, sm, cF_mod] at ih
    rw [pl]
    rw [show N - (m + 1) = N - 1 - m by omega] at *
    generalize sm (fun j => Lf j * (us j * us j) + Rf j * (linv (us j) * linv (us j))) N = S at *
    generalize sm (fun j => Lf j * (us j * us j) + Rf j * (linv (us j) * linv (us j))) (N - 1 - m) = T at *
    refine f_pl _ 0 _ _ _ (cF (Lf (N - 1 - m) * (us (N - 1 - m) * us (N - 1 - m)))) (cF (Rf (N - 1 - m) * (linv (us (N - 1 - m)) * linv (us (N - 1 - m))))) ?_
    rw [← cF_add (Lf _ * _), ← cF_add T, ih, cF_mod, cF_add, cF_mod, cF_mod, cF_add, cF_mod, cF_iff.2 (mmod' _ _), cF_iff.2 (mmod' _ _)]
theorem wf_wt0 (f : Nat → Nat) (n j : Nat) : ∀ k, k ≤ n → wf f n j = wf f (n - k) (j / 2 ^ k) * wt (fun i => linv (f i % ell)) (fun i => f i % ell) n k (j % 2 ^ k) % ell
  | 0, _ => by rw [Nat.pow_zero, Nat.div_one, Nat.sub_zero, wt, Nat.mul_one, Nat.mod_eq_of_lt (wf_lt f n j)]
  | k + 1, h => by
    rw [wf_wt0 f n j k (by omega)]
    obtain ⟨t, ht⟩ : ∃ t, n - k = t + 1 := ⟨n - k - 1, by omega⟩
    have ht1 : n - (k + 1) = t := by omega
    have ht2 : n - 1 - k = t := by omega
    rw [ht, ht1]
    have hdiv : j / 2 ^ (k + 1) = j / 2 ^ k / 2 := by rw [Nat.pow_succ, Nat.div_div_eq_div_mul]
    have hmod : j % 2 ^ (k + 1) = j % 2 ^ k + 2 ^ k * (j / 2 ^ k % 2) := by rw [Nat.pow_succ, Nat.mod_mul]
    have hlt : j % 2 ^ k < 2 ^ k := Nat.mod_lt _ (Nat.two_pow_pos k)
    rw [hdiv, hmod]
    generalize j / 2 ^ k = q at *
    rcases Nat.mod_two_eq_zero_or_one q with hq | hq
    · rw [hq, Nat.mul_zero, show j % 2 ^ k + 0 = j % 2 ^ k from rfl, wt, if_pos hlt, ht2, wf, if_pos hq]
      show _ = wf f t (q / 2) * (wt _ _ n k (j % 2 ^ k) * linv (f t % ell) % ell) % ell
      rw [linv_mod', mmod, mmod', Nat.mul_assoc, Nat.mul_comm (linv (f t))]
    · rw [hq, Nat.mul_one, wt, if_neg (by omega), Nat.add_sub_cancel, ht2, wf, if_neg (by omega)]
      show _ = wf f t (q / 2) * (wt _ _ n k (j % 2 ^ k) * (f t % ell) % ell) % ell
      rw [mmod' (wt _ _ n k _) (f t), mmod, mmod', Nat.mul_assoc, Nat.mul_comm (f t)]
theorem wf_wt (f : Nat → Nat) (n j : Nat) (hj : j < 2 ^ n) : wf f n j = wt (fun i => linv (f i % ell)) (fun i => f i % ell) n n j := by
  rw [wf_wt0 f n j n (Nat.le_refl n), Nat.sub_self, wf, Nat.one_mul, Nat.mod_eq_of_lt hj, Nat.mod_eq_of_lt (wt_lt _ _ n n j)]
theorem f_fin {p : Nat} [NeZero p] (P A1 A2 A3 a b Q o : _root_.Fin p) (ho : o = 1) : ((o * P + -a * b * Q) + (-a * A1 + -b * A2)) + A3 = (P + A3) + ((A1 * a + A2 * b) + Q * (a * b)) * (-o) := by grind
theorem terms_sum (us g h L R : Nat → Nat) (N P Q' a b : Nat) (hz : ∀ j, j < N → us j % ell ≠ 0) :
    sm (fun j => al (tK1 us N a) (tK2 us N a b) j * al (t3 (2 ^ N) P g L) (t3 (2 ^ N) Q' h R) j) (2 * (1 + 2 ^ N + N)) =
      lf (fun j => us j % ell) (fun j => L j % ell) (fun j => R j % ell) (fun j => g j % ell) (fun j => h j % ell) N (P % ell) (Q' % ell) (a % ell) (b % ell) := by
  have e1 : ∀ x y, cF ((x % ell) * y) = cF (x * y) := fun x y => cF_iff.2 (mmod x y)
  have e2 : ∀ x y, cF (x * (y % ell)) = cF (x * y) := fun x y => cF_iff.2 (mmod' x y)
  -- the program's sum
  have hl : cF (sm (fun j => tK1 us N a j * t3 (2 ^ N) P g L j + tK2 us N a b j * t3 (2 ^ N) Q' h R j) (1 + 2 ^ N + N)) =
      ((cF 1 * cF P + -cF a * cF b * cF Q') + (-cF a * cF (sm (fun j => wf us N j * g j) (2 ^ N)) + -cF b * cF (sm (fun j => linv (wf us N j) * h j) (2 ^ N)))) + cF (sm (fun j => L j * (us j * us j) + R j * (linv (us j) * linv (us j))) N) := by
    rw [sm_split, cF_mod, cF_add, sm_split, cF_mod, cF_add]
    congr 1
    · congr 1
      · rw [show sm (fun j => tK1 us N a j * t3 (2 ^ N) P g L j + tK2 us N a b j * t3 (2 ^ N) Q' h R j) 1 = (0 + (1 * P + ((ell - a % ell) % ell * b % ell) * Q')) % ell from rfl]
        rw [cF_mod, Nat.zero_add, cF_add, cF_mul, e1, cF_mul, cF_mul, cF_mod, cF_neg]
      · rw [sm_congr (t' := fun j => (ell - a % ell) * (wf us N j * g j) + (ell - b % ell) * (linv (wf us N j) * h j)) (fun j hj => ?_), ← sm_add, ← sm_mul, ← sm_mul, cF_mod, cF_add, cF_mod, cF_mod, cF_mul, cF_mul, cF_neg, cF_neg]
        show (tK1 us N a (1 + j) * t3 (2 ^ N) P g L (1 + j) + tK2 us N a b (1 + j) * t3 (2 ^ N) Q' h R (1 + j)) % ell = _
        rw [tK1, tK2, t3_1 _ _ _ _ hj, t3_1 _ _ _ _ hj, t3_1 _ _ _ _ hj, t3_1 _ _ _ _ hj]
        apply cF_iff.1
        simp only [cF_add, e1, cF_mul, cF_mod]
        rw [_root_.Fin.mul_assoc, _root_.Fin.mul_assoc]
    · rw [sm_congr (fun j hj => ?_)]
      show (tK1 us N a (1 + 2 ^ N + j) * t3 (2 ^ N) P g L (1 + 2 ^ N + j) + tK2 us N a b (1 + 2 ^ N + j) * t3 (2 ^ N) Q' h R (1 + 2 ^ N + j)) % ell = _
      rw [tK1, tK2, t3_2, t3_2, t3_2, t3_2]
      apply cF_iff.1
      rw [cF_add, e1, e1, cF_add, Nat.mul_comm (us j * us j), Nat.mul_comm (linv (us j) * linv (us j))]
  -- the document's
  have hg : cF (gl (fun t => linv (us t % ell)) (fun t => us t % ell) N N (fun j => g j % ell) 0) = cF (sm (fun j => wf us N j * g j) (2 ^ N)) := by
    have := gl_sum (fun t => linv (us t % ell)) (fun t => us t % ell) N N (fun j => g j % ell)
    rw [← cF_mod, this, sm_congr (fun j hj => ?_)]
    show wt _ _ N N j * (g j % ell) % ell = _
    rw [mmod', wf_wt us N j hj]
  have hh : cF (gl (fun t => us t % ell) (fun t => linv (us t % ell)) N N (fun j => h j % ell) 0) = cF (sm (fun j => linv (wf us N j) * h j) (2 ^ N)) := by
    have := gl_sum (fun t => us t % ell) (fun t => linv (us t % ell)) N N (fun j => h j % ell)
    rw [← cF_mod, this, sm_congr (fun j hj => ?_)]
    show wt _ _ N N j * (h j % ell) % ell = _
    rw [mmod', wf_wt us N j hj, wt_linv (fun i => linv (us i % ell)) (fun i => us i % ell) (fun i => us i % ell) (fun i => linv (us i % ell)) N N (fun i hi => ⟨?_, Nat.mod_eq_of_lt (linv_lt _)⟩)]
    have hne : us (N - 1 - i) % ell % ell ≠ 0 := by rw [Nat.mod_mod]; exact hz _ (by omega)
    exact (linv_linv hne).symm
  have hp : cF (pl (fun j => L j % ell) (fun j => R j % ell) (fun j => us j % ell) N N (P % ell)) = cF P + cF (sm (fun j => L j * (us j * us j) + R j * (linv (us j) * linv (us j))) N) := by
    have := pl_sum (fun j => L j % ell) (fun j => R j % ell) (fun j => us j % ell) N N (P % ell) (Nat.le_refl N)
    rw [Nat.sub_self, sm, cF_zero, _root_.Fin.add_zero, cF_mod] at this
    rw [this]
    congr 2
    refine sm_congr fun j _ => ?_
    show ((L j % ell) * ((us j % ell) * (us j % ell)) + (R j % ell) * (linv (us j % ell) * linv (us j % ell))) % ell = _
    rw [linv_mod']
    apply cF_iff.1
    simp only [cF_add, cF_mul, cF_mod]
  have key : cF (sm (fun j => tK1 us N a j * t3 (2 ^ N) P g L j + tK2 us N a b j * t3 (2 ^ N) Q' h R j) (1 + 2 ^ N + N)) = cF (lf (fun j => us j % ell) (fun j => L j % ell) (fun j => R j % ell) (fun j => g j % ell) (fun j => h j % ell) N (P % ell) (Q' % ell) (a % ell) (b % ell)) := by
    rw [hl, lf, cF_mod, cF_add, hp, cF_mul, cF_mod, cF_m1]
    simp only [cF_add, cF_mod, cF_mul, hg, hh]
    exact f_fin _ _ _ _ _ _ _ _ cF_one
  rw [sm_al]
  have := cF_iff.1 key
  rwa [Nat.mod_eq_of_lt (sm_lt _ _), Nat.mod_eq_of_lt (show lf _ _ _ _ _ _ _ _ _ _ < ell from mod_lt' _)] at this
end Go.Vs.Tryd
namespace Go.Vs.Tryd
open Go.Proofs
variable {G : Nat → List V}
set_option linter.unusedSimpArgs false
attribute [local go_sem] lenO_nils lenO_sl sliceAtV Int.sub_zero List.length_append List.all_append ge_iff_le gt_iff_lt Int.natCast_nonneg Int.toNat_natCast Nat.mul_one b_and_ll b_shr_ll b_mul_ll b_add_ll b_or_ll b_shl_ll pick_ll pick_lc pick_bb driveS stopV drive stepV exo expo evs fillV isNil nilKind eqV eqL optA optM sliceAtV ev kn ldc stc splice appV srcV lenV setd wantV exitV rvs rv one List.length_cons List.length_nil List.cons_append List.nil_append List.append_nil List.replicate List.getD_cons_zero List.getD_cons_succ List.set_cons_zero List.set_cons_succ List.getElem?_cons_zero List.getElem?_cons_succ List.getElem?_nil List.take_succ_cons List.take_zero List.take_nil List.drop_succ_cons List.drop_zero List.drop_nil List.all_cons List.all_nil List.any_cons List.any_nil Bool.and_true Bool.true_and Bool.and_self Option.map_some Option.map_none Option.bind_some Option.some.injEq Nat.add_zero Nat.zero_add Int.toNat_zero Int.toNat_one Int.zero_add Int.add_zero if_true if_false ite_true ite_false and_true true_and and_self ne_eq not_false_eq_true not_true_eq_false decide_true decide_false Bool.false_eq_true Bool.not_true Bool.not_false beq_self_eq_true BEq.rfl Bool.not_eq_true Nat.le_refl Int.le_refl Nat.zero_le List.foldl List.map_cons List.map_nil Prod.mk.injEq Int.cast_ofNat_Int Int.zero_le_ofNat b_add_cc b_add_cl b_add_lc b_mul_cc b_mul_cl b_mul_lc b_sub_cc b_sub_cl b_sub_lc b_and_cc b_and_cl b_and_lc b_or_cc b_or_cl b_or_lc b_xor_cc b_xor_cl b_xor_lc b_andNot_cc b_andNot_cl b_andNot_lc b_shr_cc b_shr_cl b_shr_lc b_shl_cc b_shl_cl b_shl_lc b_lss b_leq b_gtr b_geq b_add_i b_sub_i b_mul_i beq_cc beq_cl beq_lc beq_ll b_quo_i b_rem_i neg_u64 wrap_i64 driveD stepD idsAt idOf maskH_nil restore_nil restore_mask List.filterMap_nil List.filterMap_cons VOp.looks VOp.makes exA cells_agg cells_int cells_bool cells_str cells_nilp cells_ptr cells_glob cells_nils cells_sl cells_nilf cells_fn cells_nili cells_ifc known_agg known_tup known_int known_bool known_str known_nilp known_ptr known_glob known_nils known_sl known_nilf known_fn known_nili known_ifc known_unk one_agg one_tup one_int one_bool one_str one_nilp one_ptr one_glob one_nils one_sl one_nilf one_fn one_nili one_ifc asK_int asN_int asB_bool asS_str asG_agg asT_tup
section
attribute [local go_sem ↓] lc_len lc_take lc_drop lc_known lc_one lc_rens lc_cells lw_known lw_agg lw_asG scs_known scs_one scs_len
attribute [local go_sem] lt_nat lt_natl lt_lnat lt_ll bool_tf bool_ft
attribute [local go_sem ↓] ecs_len ecs_take ecs_drop ecs_known ecs_one ecs_rens ecs_fit ecs_cells ew_known ew_agg ew_asG ecs_kind ecs_k ecs_l ers_known ers_one ers_len ers_rens ers_fit
set_option maxRecDepth 100000
set_option maxHeartbeats 1000000
def forg : List V → List V → Prop
  | [], [] => True
  | v :: r, u :: s => (v = .unk ∨ v = u) ∧ forg r s
  | _, _ => False
theorem forg_get : ∀ {l m : List V}, forg l m → l.length = m.length ∧ ∀ (i : Nat) v, l[i]? = some v → v ≠ .unk → m[i]? = some v
  | [], [], _ => ⟨rfl, fun i v h => by simp at h⟩
  | v :: r, u :: s, h => by
    obtain ⟨h1, h2⟩ := forg_get h.2
    refine ⟨by simp [h1], fun i x hx hne => ?_⟩
    cases i with
    | zero =>
      obtain rfl : v = x := by simpa using hx
      rcases h.1 with e | e
      · exact absurd e hne
      · simp [e]
    | succ i => exact h2 i x (by simpa using hx) hne
theorem run_tmps {P : Program} {f : FuncId} {n : Nat} {Q : V → Heap → Prop} {k : List TI} {l m : List V} {H : Heap} (ht : forg l m) (h : Run P G f n Q (k, ⟨l, H⟩)) : Run P G f n Q (k, ⟨m, H⟩) := by
  intro ρ₀ h₀ w₀ ρ a w hn hk hsim htr hd
  obtain ⟨e1, e2⟩ := forg_get ht
  exact h ρ₀ h₀ w₀ ρ a w hn hk hsim ⟨by rw [← htr.1]; exact e1, fun t v hv hne => htr.2 t _ (e2 t v hv hne) hne⟩ hd
def trs (m : Nat) (K P : Nat → Nat) : List V := row m fun j => lc (K j) ++ lc (P j)
theorem trs_len (m : Nat) (K P : Nat → Nat) : (trs m K P).length = m * 8 := row_len (s := 8) (e := fun j => lc (K j) ++ lc (P j)) (fun _ => rfl) m
theorem trs_known (m : Nat) (K P : Nat → Nat) : (trs m K P).all V.known = true := row_all (fun _ => rfl) m
theorem trs_get (m : Nat) (K P : Nat → Nat) {i : Nat} (h : i < m) : ((trs m K P).drop (i * 8)).take 8 = lc (K i) ++ lc (P i) := row_get' (s := 8) (e := fun j => lc (K j) ++ lc (P j)) (fun _ => rfl) h
theorem trs_get1 (m : Nat) (K P : Nat → Nat) {i : Nat} (h : i < m) : ((trs m K P).drop (i * 8)).take 4 = lc (K i) := by
  have := congrArg (List.take 4) (trs_get m K P h)
  rwa [List.take_take] at this
theorem trs_get2 (m : Nat) (K P : Nat → Nat) {i : Nat} (h : i < m) : ((trs m K P).drop (i * 8 + 4)).take 4 = lc (P i) := by
  have := congrArg (List.drop 4) (trs_get m K P h)
  rw [List.drop_take, List.drop_drop] at this
  exact this
theorem trs_prs (k1 p1 k2 p2 : Nat → Nat) : ∀ m, prs m k1 p1 k2 p2 = trs (2 * m) (al k1 k2) (al p1 p2)
  | 0 => rfl
  | m + 1 => by
    have ih := trs_prs k1 p1 k2 p2 m
    unfold trs prs at *
    rw [show 2 * (m + 1) = 2 * m + 1 + 1 by omega, row, row, row, ih, al_even, al_even, al_odd, al_odd, List.append_assoc]
    simp only [prc, List.append_assoc]
attribute [local go_sem ↓] trs_len trs_known
def suv (M : Nat) (us : V) (i : Nat) : List V := [.unk, .unk, .bool false, .unk, .ptr 13 0, .unk, .ptr 19 0, .sl 21 0 M (.grow 8), .unk, us, .unk, .ptr 23 0, .int .i64 i] ++ List.replicate 76 .unk
def suh (B0 B1 B2 B3 B4 B5 B6 B7 B8 B9 B10 B11 B12 B13 B14 B15 B16 B17 B18 B19 B20 B22 : Option Blk) (M : Nat) (K P : Nat → Nat) (s : Nat) : Heap := [B0, B1, B2, B3, B4, B5, B6, B7, B8, B9, B10, B11, B12, B13, B14, B15, B16, B17, B18, B19, B20, some ⟨.ro, trs M K P⟩, B22, some ⟨.rw, lc s⟩]
theorem sum_loop (B0 B1 B2 B3 B4 B5 B6 B7 B8 B9 B10 B11 B12 B13 B14 B15 B16 B17 B18 B19 B20 B22 : Option Blk) (K Pf : Nat → Nat) (hK : ∀ j, K j < 115792089237316195423570985008687907853269984665640564039457584007913129639936) (hP : ∀ j, Pf j < 115792089237316195423570985008687907853269984665640564039457584007913129639936) (M : Nat) (hM : M < 1000000) (us : V) {Q : V → Heap → Prop} {R : List TI}
    (hR : Run Tryd.prog G 3 7 Q (R, ⟨suv M us M, suh B0 B1 B2 B3 B4 B5 B6 B7 B8 B9 B10 B11 B12 B13 B14 B15 B16 B17 B18 B19 B20 B22 M K Pf (sm (fun j => K j * Pf j) M)⟩)) : ∀ k i, i + k = M → Run Tryd.prog G 3 7 Q (.l v3_18 :: .b 0 :: R, ⟨suv M us i, suh B0 B1 B2 B3 B4 B5 B6 B7 B8 B9 B10 B11 B12 B13 B14 B15 B16 B17 B18 B19 B20 B22 M K Pf (sm (fun j => K j * Pf j) i)⟩)
  | 0, i, h => by
    obtain rfl : i = M := by omega
    have h0 : ((i : Int) < (i : Int)) = False := eq_false (by omega)
    unfold suv suh
    refine run_loop_eq v3_18.eq_1 ?_
    refine run_driveS 80 ?_
    simp only [go_sem, Nat.reduceAdd, Nat.reduceSub, Nat.reduceLeDiff, Nat.reduceMul, Nat.reduceLT, Nat.reduceEqDiff, Int.reduceLT, Int.reduceLE, Int.reduceAdd, Int.reduceSub, Int.reduceMul, Int.reduceToNat, reduceIte, reduceCtorEq, Nat.reduceBEq, v3_14, h0]
    refine run_exit rfl ?_
    refine run_tmps ?_ hR
    simp only [go_sem, Nat.reduceAdd, Nat.reduceSub, Nat.reduceLeDiff, Nat.reduceMul, Nat.reduceLT, Nat.reduceEqDiff, Int.reduceLT, Int.reduceLE, Int.reduceAdd, Int.reduceSub, Int.reduceMul, Int.reduceToNat, reduceIte, reduceCtorEq, Nat.reduceBEq, suv, forg, true_or, or_true]
  | k + 1, i, h => by
    have ih := sum_loop B0 B1 B2 B3 B4 B5 B6 B7 B8 B9 B10 B11 B12 B13 B14 B15 B16 B17 B18 B19 B20 B22 K Pf hK hP M hM us hR k (i + 1) (by omega)
    have h0 : ((i : Int) < (M : Int)) = True := eq_true (by omega)
    have hg1 := trs_get1 M K Pf (i := i) (by omega)
    have hg2 := trs_get2 M K Pf (i := i) (by omega)
    have h1 : (i * 8 + 4 ≤ M * 8) = True := eq_true (by omega)
    have h2 : (i * 8 + 8 ≤ M * 8) = True := eq_true (by omega)
    have hw : IntKind.i64.wrap ((i : Int) + 1) = ((i + 1 : Nat) : Int) := by rw [wrap_i64 (by omega) (by omega)]; omega
    have he : sm (fun j => K j * Pf j) (i + 1) = (sm (fun j => K j * Pf j) i + K i % ell * (Pf i % ell) % ell) % ell := by
      rw [sm, add_r, ← add_r, ← mmod, ← mmod', add_r]
    unfold suv suh
    refine run_loop_eq v3_18.eq_1 ?_
    refine run_driveS 80 ?_
    simp only [go_sem, Nat.reduceAdd, Nat.reduceSub, Nat.reduceLeDiff, Nat.reduceMul, Nat.reduceLT, Nat.reduceEqDiff, Int.reduceLT, Int.reduceLE, Int.reduceAdd, Int.reduceSub, Int.reduceMul, Int.reduceToNat, reduceIte, reduceCtorEq, Nat.reduceBEq, v3_14, v3_16, v3_17, h0]
    refine run_drw (by kernel_rfl) ?_
    refine drun_drive 40 (p := (_, _)) ?_
    simp only [go_sem, Nat.reduceAdd, Nat.reduceSub, Nat.reduceLeDiff, Nat.reduceMul, Nat.reduceLT, Nat.reduceEqDiff, Int.reduceLT, Int.reduceLE, Int.reduceAdd, Int.reduceSub, Int.reduceMul, Int.reduceToNat, reduceIte, reduceCtorEq, Nat.reduceBEq, v3_15, h0, hg1, hg2, h1, h2]
    refine drun_call' ?_
    simp only [go_sem, Nat.reduceAdd, Nat.reduceSub, Nat.reduceLeDiff, Nat.reduceMul, Nat.reduceLT, Nat.reduceEqDiff, Int.reduceLT, Int.reduceLE, Int.reduceAdd, Int.reduceSub, Int.reduceMul, Int.reduceToNat, reduceIte, reduceCtorEq, Nat.reduceBEq, calV, restore, Option.join_some, maskH, List.mapIdx_cons, List.mapIdx_nil, List.contains_cons, List.contains_nil, Bool.or_false, Bool.or_true, Bool.false_or, Bool.true_or, Nat.reduceBEq]
    refine ref_least _ (hK i) ?_
    refine drun_drive 40 (p := (_, _)) ?_
    simp only [go_sem, Nat.reduceAdd, Nat.reduceSub, Nat.reduceLeDiff, Nat.reduceMul, Nat.reduceLT, Nat.reduceEqDiff, Int.reduceLT, Int.reduceLE, Int.reduceAdd, Int.reduceSub, Int.reduceMul, Int.reduceToNat, reduceIte, reduceCtorEq, Nat.reduceBEq, restore, Option.join_some, maskH, List.mapIdx_cons, List.mapIdx_nil, List.contains_cons, List.contains_nil, Bool.or_false, Bool.or_true, Bool.false_or, Bool.true_or, Nat.reduceBEq]
    refine drun_call' ?_
    simp only [go_sem, Nat.reduceAdd, Nat.reduceSub, Nat.reduceLeDiff, Nat.reduceMul, Nat.reduceLT, Nat.reduceEqDiff, Int.reduceLT, Int.reduceLE, Int.reduceAdd, Int.reduceSub, Int.reduceMul, Int.reduceToNat, reduceIte, reduceCtorEq, Nat.reduceBEq, calV, restore, Option.join_some, maskH, List.mapIdx_cons, List.mapIdx_nil, List.contains_cons, List.contains_nil, Bool.or_false, Bool.or_true, Bool.false_or, Bool.true_or, Nat.reduceBEq]
    refine ref_least _ (hP i) ?_
    refine drun_drive 40 (p := (_, _)) ?_
    simp only [go_sem, Nat.reduceAdd, Nat.reduceSub, Nat.reduceLeDiff, Nat.reduceMul, Nat.reduceLT, Nat.reduceEqDiff, Int.reduceLT, Int.reduceLE, Int.reduceAdd, Int.reduceSub, Int.reduceMul, Int.reduceToNat, reduceIte, reduceCtorEq, Nat.reduceBEq, restore, Option.join_some, maskH, List.mapIdx_cons, List.mapIdx_nil, List.contains_cons, List.contains_nil, Bool.or_false, Bool.or_true, Bool.false_or, Bool.true_or, Nat.reduceBEq]
    refine drun_call' ?_
    simp only [go_sem, Nat.reduceAdd, Nat.reduceSub, Nat.reduceLeDiff, Nat.reduceMul, Nat.reduceLT, Nat.reduceEqDiff, Int.reduceLT, Int.reduceLE, Int.reduceAdd, Int.reduceSub, Int.reduceMul, Int.reduceToNat, reduceIte, reduceCtorEq, Nat.reduceBEq, calV, restore, Option.join_some, maskH, List.mapIdx_cons, List.mapIdx_nil, List.contains_cons, List.contains_nil, Bool.or_false, Bool.or_true, Bool.false_or, Bool.true_or, Nat.reduceBEq]
    refine ref_mul _ _ (mod_lt _) (mod_lt _) ?_
    refine drun_drive 40 (p := (_, _)) ?_
    simp only [go_sem, Nat.reduceAdd, Nat.reduceSub, Nat.reduceLeDiff, Nat.reduceMul, Nat.reduceLT, Nat.reduceEqDiff, Int.reduceLT, Int.reduceLE, Int.reduceAdd, Int.reduceSub, Int.reduceMul, Int.reduceToNat, reduceIte, reduceCtorEq, Nat.reduceBEq, restore, Option.join_some, maskH, List.mapIdx_cons, List.mapIdx_nil, List.contains_cons, List.contains_nil, Bool.or_false, Bool.or_true, Bool.false_or, Bool.true_or, Nat.reduceBEq]
    refine drun_call' ?_
    simp only [go_sem, Nat.reduceAdd, Nat.reduceSub, Nat.reduceLeDiff, Nat.reduceMul, Nat.reduceLT, Nat.reduceEqDiff, Int.reduceLT, Int.reduceLE, Int.reduceAdd, Int.reduceSub, Int.reduceMul, Int.reduceToNat, reduceIte, reduceCtorEq, Nat.reduceBEq, calV, restore, Option.join_some, maskH, List.mapIdx_cons, List.mapIdx_nil, List.contains_cons, List.contains_nil, Bool.or_false, Bool.or_true, Bool.false_or, Bool.true_or, Nat.reduceBEq]
    refine ref_add _ _ (sm_lt _ _) (mod_lt' _) ?_
    refine drun_drive 40 (p := (_, _)) ?_
    simp only [go_sem, Nat.reduceAdd, Nat.reduceSub, Nat.reduceLeDiff, Nat.reduceMul, Nat.reduceLT, Nat.reduceEqDiff, Int.reduceLT, Int.reduceLE, Int.reduceAdd, Int.reduceSub, Int.reduceMul, Int.reduceToNat, reduceIte, reduceCtorEq, Nat.reduceBEq, restore, Option.join_some, maskH, List.mapIdx_cons, List.mapIdx_nil, List.contains_cons, List.contains_nil, Bool.or_false, Bool.or_true, Bool.false_or, Bool.true_or, Nat.reduceBEq]
    refine drun_end ?_
    refine run_driveS 80 ?_
    simp only [go_sem, Nat.reduceAdd, Nat.reduceSub, Nat.reduceLeDiff, Nat.reduceMul, Nat.reduceLT, Nat.reduceEqDiff, Int.reduceLT, Int.reduceLE, Int.reduceAdd, Int.reduceSub, Int.reduceMul, Int.reduceToNat, reduceIte, reduceCtorEq, Nat.reduceBEq, v3_17, hw]
    rw [suv, suh, he] at ih
    refine run_tmps ?_ ih
    simp only [go_sem, Nat.reduceAdd, Nat.reduceSub, Nat.reduceLeDiff, Nat.reduceMul, Nat.reduceLT, Nat.reduceEqDiff, Int.reduceLT, Int.reduceLE, Int.reduceAdd, Int.reduceSub, Int.reduceMul, Int.reduceToNat, reduceIte, reduceCtorEq, Nat.reduceBEq, forg, true_or, or_true]
end
section
attribute [local go_sem ↓] lc_len lc_take lc_drop lc_known lc_one lc_rens lc_cells lw_known lw_agg lw_asG scs_known scs_one scs_len
attribute [local go_sem] lt_nat lt_natl lt_lnat lt_ll bool_tf bool_ft
attribute [local go_sem ↓] ecs_len ecs_take ecs_drop ecs_known ecs_one ecs_rens ecs_fit ecs_cells ew_known ew_agg ew_asG ecs_kind ecs_k ecs_l ers_known ers_one ers_len ers_rens ers_fit
set_option maxRecDepth 100000
set_option maxHeartbeats 1000000
attribute [local go_sem ↓] ivl_known ivl_one lc_take_add lc_drop_add ecs_take_add ecs_drop_add lenO_de lenO_dv de_known dv_known de_one dv_one de_ren dv_ren
attribute [local go_sem ↓] trs_len trs_known
theorem eb_map (f : Nat → Nat) (n : Nat) (g : Nat → Nat) : (eb f n).map (renB g) = eb f n := by
  unfold eb
  split
  · rfl
  · simp only [Option.map_some, renB, ers_rens]
theorem scalars_at (f : Nat → Nat) (n m : Nat) (z : Bool) (hok : Ok n m z) (p : Nat) {h : Heap} (hp : h[p]? = some (ivb f n z)) (n' : Nat) (hn' : n' = min n 2100) {R : V → Heap → Prop} (hR : R (.sl h.length 0 n' (.exact (n' + 1))) (h ++ [some ⟨.rw, scs n' f ++ lc 78⟩])) : VCall Tryd.prog G 10 [ivl p n m z] h R := by
  refine vcall_at (scalars f n n' (ivl 0 n m z) (ivb f n z) (In_iv hok) hn' (fun v k => v = .sl 1 0 n' (.exact (n' + 1)) ∧ k = [ivb f n z, some ⟨.rw, scs n' f ++ lc 78⟩]) ⟨rfl, rfl⟩) [p] ?_ (hfit_one hp) ?_ ?_ ?_
  · intro i hi
    obtain rfl : i = p := by simpa using hi
    exact (List.getElem?_eq_some_iff.1 hp).1
  · simp [uniq]
  · simp only [rens, ivl_ren, gmap]
  · rintro v k ⟨rfl, rfl⟩
    rw [puts_ro (by simp [wrB_ivb]) rfl (by simp)]
    simpa [ren, gmap, renB, rens_append, scs_rens, lc_rens] using hR
theorem db_map (f : Nat → Nat) (n : Nat) (g : Nat → Nat) : (db f n).map (renB g) = db f n := by
  unfold db
  split
  · rfl
  · simp only [Option.map_some, renB, scs_rens]
theorem doc_scalars_at (f : Nat → Nat) (hf : ∀ j, f j < 115792089237316195423570985008687907853269984665640564039457584007913129639936) (n m : Nat) (z : Bool) (hok : Ok n m z) (p : Nat) {h : Heap} (hp : h[p]? = some (ivb f n z)) (n' : Nat) (hn' : n' = min n 2100) {R : V → Heap → Prop} (hR : R (dv h.length n') (h ++ [db (fun j => f j % ell) n'])) : VCall Tryd.prog G 11 [ivl p n m z] h R := by
  refine vcall_at (doc_scalars f hf n n' (ivl 0 n m z) (ivb f n z) (In_iv hok) hn' (fun v k => v = dv 1 n' ∧ k = [ivb f n z, db (fun j => f j % ell) n']) ⟨rfl, rfl⟩) [p] ?_ (hfit_one hp) ?_ ?_ ?_
  · intro i hi
    obtain rfl : i = p := by simpa using hi
    exact (List.getElem?_eq_some_iff.1 hp).1
  · simp [uniq]
  · simp only [rens, ivl_ren, gmap]
  · rintro v k ⟨rfl, rfl⟩
    rw [puts_ro (by simp [wrB_ivb]) rfl (by simp)]
    have e : ren (gmap [p] h.length) (dv 1 n') = dv h.length n' := by rw [dv_ren]; rfl
    rw [e]
    simpa [db_map] using hR
theorem bfit_db {g f : Nat → Nat} {n : Nat} : bfit g (rob f n) (db f n) := by
  unfold rob db
  split
  · trivial
  · exact bfit_same (scs_rens ..)
theorem rob_map (f : Nat → Nat) (n : Nat) (g : Nat → Nat) : (rob f n).map (renB g) = rob f n := by
  unfold rob
  split
  · rfl
  · simp only [Option.map_some, renB, scs_rens]
theorem trs_rens (m : Nat) (K P g : Nat → Nat) : rens g (trs m K P) = trs m K P := row_rens (fun j => by rw [rens_append, lc_rens, lc_rens]) m
theorem tK_lt (us : Nat → Nat) (N a b : Nat) (j : Nat) : al (tK1 us N a) (tK2 us N a b) j < 115792089237316195423570985008687907853269984665640564039457584007913129639936 := by
  have h1 : ∀ j, tK1 us N a j < 115792089237316195423570985008687907853269984665640564039457584007913129639936 := fun j => by
    unfold tK1 t3
    split
    · decide
    · split <;> exact mod_lt _
  have h2 : ∀ j, tK2 us N a b j < 115792089237316195423570985008687907853269984665640564039457584007913129639936 := fun j => by
    unfold tK2 t3
    split
    · exact mod_lt _
    · split <;> exact mod_lt _
  unfold al
  split
  · exact h1 _
  · exact h2 _
theorem tP_lt (n P Q' : Nat) (g h l r : Nat → Nat) (hP : P < 115792089237316195423570985008687907853269984665640564039457584007913129639936) (hQ : Q' < 115792089237316195423570985008687907853269984665640564039457584007913129639936) (hg : ∀ j, g j < 115792089237316195423570985008687907853269984665640564039457584007913129639936) (hh : ∀ j, h j < 115792089237316195423570985008687907853269984665640564039457584007913129639936) (hl : ∀ j, l j < 115792089237316195423570985008687907853269984665640564039457584007913129639936) (hr : ∀ j, r j < 115792089237316195423570985008687907853269984665640564039457584007913129639936) (j : Nat) : al (t3 n P g l) (t3 n Q' h r) j < 115792089237316195423570985008687907853269984665640564039457584007913129639936 := by
  have h1 : ∀ x (y z : Nat → Nat), x < 115792089237316195423570985008687907853269984665640564039457584007913129639936 → (∀ j, y j < 115792089237316195423570985008687907853269984665640564039457584007913129639936) → (∀ j, z j < 115792089237316195423570985008687907853269984665640564039457584007913129639936) → ∀ j, t3 n x y z j < 115792089237316195423570985008687907853269984665640564039457584007913129639936 := fun x y z e1 e2 e3 j => by
    unfold t3
    split
    · exact e1
    · split
      · exact e2 _
      · exact e3 _
  unfold al
  split
  · exact h1 _ _ _ hP hg hl _
  · exact h1 _ _ _ hQ hh hr _
theorem wrB_ro (c : List V) : wrB (some ⟨.ro, c⟩) = false := rfl
theorem law (hG0 : G 0 = tbl) (g h l r us : Nat → Nat) (hg : ∀ j, g j < 115792089237316195423570985008687907853269984665640564039457584007913129639936) (hh : ∀ j, h j < 115792089237316195423570985008687907853269984665640564039457584007913129639936) (hl : ∀ j, l j < 115792089237316195423570985008687907853269984665640564039457584007913129639936) (hr : ∀ j, r j < 115792089237316195423570985008687907853269984665640564039457584007913129639936) (hus : ∀ j, us j < 115792089237316195423570985008687907853269984665640564039457584007913129639936) (Q' P ea eb' nG mG nH mH nA mA nB mB nL mL nR mR nU mU : Nat) (zG zH zA zB zL zR zU : Bool) (hG : Ok nG mG zG) (hH : Ok nH mH zH) (hL : Ok nL mL zL) (hR : Ok nR mR zR) (hU : Ok nU mU zU) (hP : P < 115792089237316195423570985008687907853269984665640564039457584007913129639936) (hQ' : Q' < 115792089237316195423570985008687907853269984665640564039457584007913129639936) (hA : ea < 115792089237316195423570985008687907853269984665640564039457584007913129639936) (hB : eb' < 115792089237316195423570985008687907853269984665640564039457584007913129639936) (sc lab : V) (hsc : ∀ f, ren f sc = sc) (hlab : ∀ f, ren f lab = lab) (hsk : sc.known = true) (hlk : lab.known = true) (N : Int) :
    VCall Tryd.prog G 3 [.agg (cas Q' P (ivl 0 nG mG zG) (ivl 1 nH mH zH) (ivl 2 nA mA zA) (ivl 3 nB mB zB) (ivl 4 nL mL zL) (ivl 5 nR mR zR) ea eb' sc (ivl 6 nU mU zU) lab (.int .i64 N))] [ivb g nG zG, ivb h nH zH, none, none, ivb l nL zL, ivb r nR zR, ivb us nU zU]
      fun v k => v = .bool true ∧ k = [ivb g nG zG, ivb h nH zH, none, none, ivb l nL zL, ivb r nR zR, ivb us nU zU] := by
  have hs := fun Q => statement (G := G) g h hg hh Q' P ea eb' nG mG nH mH nA mA nB mB nL mL nR mR nU mU zG zH zA zB zL zR zU hG hH hP hQ' sc lab hsc hlab hsk hlk N Q
  have ha := fun Q => argument (G := G) l r hl hr Q' P ea eb' nG mG nH mH nA mA nB mB nL mL nR mR nU mU zG zH zA zB zL zR zU hL hR hA hB sc lab hsk hlk N Q
  have b1 : min nG 2100 ≤ 2100 := Nat.min_le_right ..
  have b2 : min nH 2100 ≤ 2100 := Nat.min_le_right ..
  have b3 : min nL 2100 ≤ 2100 := Nat.min_le_right ..
  have b4 : min nR 2100 ≤ 2100 := Nat.min_le_right ..
  have b5 : min nU 2100 ≤ 2100 := Nat.min_le_right ..
  generalize min nG 2100 = n1 at *
  generalize min nH 2100 = n2 at *
  generalize min nL 2100 = n3 at *
  generalize min nR 2100 = n4 at *
  generalize hn5 : min nU 2100 = n5 at *
  refine vcall_body Tryd.func3 nm3 code3 nt3 ?_
  unfold cas at *
  refine run_driveS 80 ?_
  simp only [go_sem, Nat.reduceAdd, Nat.reduceSub, Nat.reduceLeDiff, Nat.reduceMul, Nat.reduceLT, Nat.reduceEqDiff, Int.reduceLT, Int.reduceLE, Int.reduceAdd, Int.reduceSub, Int.reduceMul, Int.reduceToNat, reduceIte, reduceCtorEq, Nat.reduceBEq, v3, v3_0, v3_1, hsk, hlk]
  refine run_call' rfl ?_
  simp only [go_sem, Nat.reduceAdd, Nat.reduceSub, Nat.reduceLeDiff, Nat.reduceMul, Nat.reduceLT, Nat.reduceEqDiff, Int.reduceLT, Int.reduceLE, Int.reduceAdd, Int.reduceSub, Int.reduceMul, Int.reduceToNat, reduceIte, reduceCtorEq, Nat.reduceBEq, calV]
  refine vcall_at (hs (fun v k => v = .tup [stL P Q' (.sl 7 0 n1 (.exact (n1 + 1))) (.sl 8 0 n2 (.exact (n2 + 1))), stE (P % ell) (Q' % ell) (de 9 n1) (de 10 n2)] ∧ k = [ivb g nG zG, ivb h nH zH, none, none, none, none, none, some ⟨.ro, scs n1 g ++ lc 77⟩, some ⟨.ro, scs n2 h ++ lc 77⟩, eb (fun j => g j % ell) n1, eb (fun j => h j % ell) n2]) ⟨rfl, rfl⟩) [0, 1, 2, 3, 4, 5, 6] (by simp) ?_ ?_ ?_ ?_
  · exact hfit_cons rfl bfit_ivb (hfit_cons rfl bfit_ivb (hfit_cons_none (hfit_cons_none (hfit_cons_none (hfit_cons_none (hfit_cons_none hfit_nil))))))
  · simp [uniq, wrB_ivb, wrB]
  · simp only [rens, ren, rens_append, lc_rens, ivl_ren, gmap, hsc, hlab]
  rintro v k ⟨rfl, rfl⟩
  rw [puts_ro (by simp [wrB_ivb, wrB_none]) rfl (by simp)]
  simp only [go_sem, Nat.reduceAdd, Nat.reduceSub, Nat.reduceLeDiff, Nat.reduceMul, Nat.reduceLT, Nat.reduceEqDiff, Int.reduceLT, Int.reduceLE, Int.reduceAdd, Int.reduceSub, Int.reduceMul, Int.reduceToNat, reduceIte, reduceCtorEq, Nat.reduceBEq, ren, rens, gmap, renB, Option.map_some, Option.map_none, scs_rens, lc_rens, rens_append, ers_rens, ecs_rens, de_ren, dv_ren, stL_ren, arL_ren, stE_ren, arE_ren, ivl_ren, stL, stE, arL, arE, eb_map]
  refine run_driveS 80 ?_
  simp only [go_sem, Nat.reduceAdd, Nat.reduceSub, Nat.reduceLeDiff, Nat.reduceMul, Nat.reduceLT, Nat.reduceEqDiff, Int.reduceLT, Int.reduceLE, Int.reduceAdd, Int.reduceSub, Int.reduceMul, Int.reduceToNat, reduceIte, reduceCtorEq, Nat.reduceBEq, v3_2, List.append_assoc, hsk, hlk]
  refine run_call' rfl ?_
  simp only [go_sem, Nat.reduceAdd, Nat.reduceSub, Nat.reduceLeDiff, Nat.reduceMul, Nat.reduceLT, Nat.reduceEqDiff, Int.reduceLT, Int.reduceLE, Int.reduceAdd, Int.reduceSub, Int.reduceMul, Int.reduceToNat, reduceIte, reduceCtorEq, Nat.reduceBEq, calV]
  refine vcall_at (ha (fun v k => v = .tup [arL (.sl 7 0 n3 (.exact (n3 + 1))) (.sl 8 0 n4 (.exact (n4 + 1))) ea eb', arE (de 9 n3) (de 10 n4) (ea % ell) (eb' % ell)] ∧ k = [none, none, none, none, ivb l nL zL, ivb r nR zR, none, some ⟨.ro, scs n3 l ++ lc 77⟩, some ⟨.ro, scs n4 r ++ lc 77⟩, eb (fun j => l j % ell) n3, eb (fun j => r j % ell) n4]) ⟨rfl, rfl⟩) [0, 1, 2, 3, 4, 5, 6] (by simp) ?_ ?_ ?_ ?_
  · exact hfit_cons_none (hfit_cons_none (hfit_cons_none (hfit_cons_none (hfit_cons rfl bfit_ivb (hfit_cons rfl bfit_ivb (hfit_cons_none hfit_nil))))))
  · simp [uniq, wrB_ivb, wrB_none]
  · simp only [rens, ren, rens_append, lc_rens, ivl_ren, gmap, hsc, hlab]
  rintro v k ⟨rfl, rfl⟩
  rw [puts_ro (by simp [wrB_ivb, wrB_none]) rfl (by simp)]
  simp only [go_sem, Nat.reduceAdd, Nat.reduceSub, Nat.reduceLeDiff, Nat.reduceMul, Nat.reduceLT, Nat.reduceEqDiff, Int.reduceLT, Int.reduceLE, Int.reduceAdd, Int.reduceSub, Int.reduceMul, Int.reduceToNat, reduceIte, reduceCtorEq, Nat.reduceBEq, ren, rens, gmap, renB, Option.map_some, Option.map_none, scs_rens, lc_rens, rens_append, ers_rens, ecs_rens, de_ren, dv_ren, stL_ren, arL_ren, stE_ren, arE_ren, ivl_ren, stL, stE, arL, arE, eb_map]
  refine run_driveS 80 ?_
  simp only [go_sem, Nat.reduceAdd, Nat.reduceSub, Nat.reduceLeDiff, Nat.reduceMul, Nat.reduceLT, Nat.reduceEqDiff, Int.reduceLT, Int.reduceLE, Int.reduceAdd, Int.reduceSub, Int.reduceMul, Int.reduceToNat, reduceIte, reduceCtorEq, Nat.reduceBEq, List.append_assoc, hsk, hlk]
  refine run_drw (by kernel_rfl) ?_
  refine drun_drive 40 (p := (_, _)) ?_
  simp only [go_sem, Nat.reduceAdd, Nat.reduceSub, Nat.reduceLeDiff, Nat.reduceMul, Nat.reduceLT, Nat.reduceEqDiff, Int.reduceLT, Int.reduceLE, Int.reduceAdd, Int.reduceSub, Int.reduceMul, Int.reduceToNat, reduceIte, reduceCtorEq, Nat.reduceBEq, v3_3, hsk, hlk]
  refine drun_call' ?_
  simp only [go_sem, Nat.reduceAdd, Nat.reduceSub, Nat.reduceLeDiff, Nat.reduceMul, Nat.reduceLT, Nat.reduceEqDiff, Int.reduceLT, Int.reduceLE, Int.reduceAdd, Int.reduceSub, Int.reduceMul, Int.reduceToNat, reduceIte, reduceCtorEq, Nat.reduceBEq, calV, restore, Option.join_some, maskH, List.mapIdx_cons, List.mapIdx_nil, List.contains_cons, List.contains_nil, Bool.or_false, Bool.or_true, Bool.false_or, Bool.true_or, Nat.reduceBEq]
  refine scalars_at us nU mU zU hU 6 rfl n5 hn5.symm ?_
  refine drun_drive 40 (p := (_, _)) ?_
  simp only [go_sem, Nat.reduceAdd, Nat.reduceSub, Nat.reduceLeDiff, Nat.reduceMul, Nat.reduceLT, Nat.reduceEqDiff, Int.reduceLT, Int.reduceLE, Int.reduceAdd, Int.reduceSub, Int.reduceMul, Int.reduceToNat, reduceIte, reduceCtorEq, Nat.reduceBEq, restore, Option.join_some, maskH, List.mapIdx_cons, List.mapIdx_nil, List.contains_cons, List.contains_nil, Bool.or_false, Bool.or_true, Bool.false_or, Bool.true_or, Nat.reduceBEq]
  refine drun_call' ?_
  simp only [go_sem, Nat.reduceAdd, Nat.reduceSub, Nat.reduceLeDiff, Nat.reduceMul, Nat.reduceLT, Nat.reduceEqDiff, Int.reduceLT, Int.reduceLE, Int.reduceAdd, Int.reduceSub, Int.reduceMul, Int.reduceToNat, reduceIte, reduceCtorEq, Nat.reduceBEq, calV]
  refine vcall_at (terms hG0 us g h l r hus hg n1 n2 n3 n4 n5 P Q' ea eb' (by omega) (by omega) hA hB (lc 78) (lc 77) (lc 77) (lc 77) (lc 77) (lc_rens _) (lc_rens _) (lc_rens _) (lc_rens _) (lc_rens _) (.exact (n5 + 1)) (.exact (n1 + 1)) (.exact (n2 + 1)) (.exact (n3 + 1)) (.exact (n4 + 1))
    (fun v k => ((∀ k, ¬ Fit n1 n2 n3 n4 n5 k) ∧ v = .tup [.nils, .int .i64 2] ∧ k = [some ⟨.ro, scs n5 us ++ lc 78⟩, some ⟨.ro, scs n1 g ++ lc 77⟩, some ⟨.ro, scs n2 h ++ lc 77⟩, some ⟨.ro, scs n3 l ++ lc 77⟩, some ⟨.ro, scs n4 r ++ lc 77⟩]) ∨
      (∃ m, Fit n1 n2 n3 n4 n5 m ∧ (∃ j, j < n5 ∧ us j % ell = 0) ∧ v = .tup [.nils, .int .i64 4] ∧ k = [some ⟨.ro, scs n5 us ++ lc 78⟩, some ⟨.ro, scs n1 g ++ lc 77⟩, some ⟨.ro, scs n2 h ++ lc 77⟩, some ⟨.ro, scs n3 l ++ lc 77⟩, some ⟨.ro, scs n4 r ++ lc 77⟩]) ∨
      (∃ m, Fit n1 n2 n3 n4 n5 m ∧ (∀ j, j < n5 → us j % ell ≠ 0) ∧ v = .tup [.sl 5 0 (2 * (1 + 2 ^ m + m)) (.grow 8), .int .i64 0] ∧ k = [some ⟨.ro, scs n5 us ++ lc 78⟩, some ⟨.ro, scs n1 g ++ lc 77⟩, some ⟨.ro, scs n2 h ++ lc 77⟩, some ⟨.ro, scs n3 l ++ lc 77⟩, some ⟨.ro, scs n4 r ++ lc 77⟩, some ⟨.ro, prs (1 + 2 ^ m + m) (tK1 us m ea) (t3 (2 ^ m) P g l) (tK2 us m ea eb') (t3 (2 ^ m) Q' h r)⟩]))
    (fun e => .inl ⟨e, rfl, rfl⟩) (fun m e1 e2 => .inr (.inl ⟨m, e1, e2, rfl, rfl⟩)) (fun m e1 e2 => .inr (.inr ⟨m, e1, e2, rfl, rfl⟩))) [20, 8, 9, 14, 15] (by simp) ?_ ?_ ?_ ?_
  · exact hfit_cons rfl bfit_sm (hfit_cons rfl bfit_sm (hfit_cons rfl bfit_sm (hfit_cons rfl bfit_sm (hfit_cons rfl bfit_sm hfit_nil))))
  · simp [uniq, wrB]
  · simp only [ren, rens, gmap, renB, Option.map_some, Option.map_none, scs_rens, lc_rens, rens_append, ers_rens, ecs_rens, de_ren, dv_ren, stL_ren, arL_ren, stE_ren, arE_ren, ivl_ren, stL, stE, arL, arE]
  have hfr := fun Q => fits_ref (G := G) (P % ell) (Q' % ell) (ea % ell) (eb' % ell) n1 n2 n3 n4 n5 (fun j => us j % ell) (fun j => mod_lt _) Q
  rintro v k (⟨f1, rfl, rfl⟩ | ⟨m, f1, f2, rfl, rfl⟩ | ⟨m, f1, f2, rfl, rfl⟩)
  · rw [puts_ro (by simp [wrB_ivb, wrB_ro]) rfl (by simp)]
    simp only [go_sem, Nat.reduceAdd, Nat.reduceSub, Nat.reduceLeDiff, Nat.reduceMul, Nat.reduceLT, Nat.reduceEqDiff, Int.reduceLT, Int.reduceLE, Int.reduceAdd, Int.reduceSub, Int.reduceMul, Int.reduceToNat, reduceIte, reduceCtorEq, Nat.reduceBEq, ren, rens, gmap, renB, Option.map_some, Option.map_none, scs_rens, lc_rens, rens_append, ers_rens, ecs_rens, de_ren, dv_ren, stL_ren, arL_ren, stE_ren, arE_ren, ivl_ren, stL, stE, arL, arE, eb_map]
    refine drun_drive 40 (p := (_, _)) ?_
    simp only [go_sem, Nat.reduceAdd, Nat.reduceSub, Nat.reduceLeDiff, Nat.reduceMul, Nat.reduceLT, Nat.reduceEqDiff, Int.reduceLT, Int.reduceLE, Int.reduceAdd, Int.reduceSub, Int.reduceMul, Int.reduceToNat, reduceIte, reduceCtorEq, Nat.reduceBEq]
    refine drun_end ?_
    refine run_driveS 80 ?_
    simp only [go_sem, Nat.reduceAdd, Nat.reduceSub, Nat.reduceLeDiff, Nat.reduceMul, Nat.reduceLT, Nat.reduceEqDiff, Int.reduceLT, Int.reduceLE, Int.reduceAdd, Int.reduceSub, Int.reduceMul, Int.reduceToNat, reduceIte, reduceCtorEq, Nat.reduceBEq, v3_4, hsk, hlk]
    refine run_call' rfl ?_
    simp only [go_sem, Nat.reduceAdd, Nat.reduceSub, Nat.reduceLeDiff, Nat.reduceMul, Nat.reduceLT, Nat.reduceEqDiff, Int.reduceLT, Int.reduceLE, Int.reduceAdd, Int.reduceSub, Int.reduceMul, Int.reduceToNat, reduceIte, reduceCtorEq, Nat.reduceBEq, calV]
    refine doc_scalars_at us hus nU mU zU hU 6 rfl n5 hn5.symm ?_
    refine run_driveS 80 ?_
    simp only [go_sem, Nat.reduceAdd, Nat.reduceSub, Nat.reduceLeDiff, Nat.reduceMul, Nat.reduceLT, Nat.reduceEqDiff, Int.reduceLT, Int.reduceLE, Int.reduceAdd, Int.reduceSub, Int.reduceMul, Int.reduceToNat, reduceIte, reduceCtorEq, Nat.reduceBEq, v3_5]
    refine run_call' rfl ?_
    simp only [go_sem, Nat.reduceAdd, Nat.reduceSub, Nat.reduceLeDiff, Nat.reduceMul, Nat.reduceLT, Nat.reduceEqDiff, Int.reduceLT, Int.reduceLE, Int.reduceAdd, Int.reduceSub, Int.reduceMul, Int.reduceToNat, reduceIte, reduceCtorEq, Nat.reduceBEq, calV]
    refine vcall_at (hfr (fun v k => v = .int .i64 2 ∧ k = [rob (fun j => us j % ell) n5, none, none, none, none]) (fun _ => ⟨rfl, rfl⟩) (fun m e => absurd e (f1 m)) (fun m e => absurd e (f1 m))) [21, 10, 11, 16, 17] (by simp) ?_ ?_ ?_ ?_
    · exact hfit_cons rfl bfit_db (hfit_cons_none (hfit_cons_none (hfit_cons_none (hfit_cons_none hfit_nil))))
    · simp [uniq, wrB_rob, wrB_none]
    · simp only [ren, rens, gmap, renB, Option.map_some, Option.map_none, scs_rens, lc_rens, rens_append, ers_rens, ecs_rens, de_ren, dv_ren, stL_ren, arL_ren, stE_ren, arE_ren, ivl_ren, stL, stE, arL, arE]
    rintro v k ⟨rfl, rfl⟩
    rw [puts_ro (by simp [wrB_rob, wrB_none]) rfl (by simp)]
    simp only [go_sem, Nat.reduceAdd, Nat.reduceSub, Nat.reduceLeDiff, Nat.reduceMul, Nat.reduceLT, Nat.reduceEqDiff, Int.reduceLT, Int.reduceLE, Int.reduceAdd, Int.reduceSub, Int.reduceMul, Int.reduceToNat, reduceIte, reduceCtorEq, Nat.reduceBEq, ren, rens, gmap, renB, Option.map_some, Option.map_none, scs_rens, lc_rens, rens_append, ers_rens, ecs_rens, de_ren, dv_ren, stL_ren, arL_ren, stE_ren, arE_ren, ivl_ren, stL, stE, arL, arE, rob_map]
    refine run_driveS 80 ?_
    simp only [go_sem, Nat.reduceAdd, Nat.reduceSub, Nat.reduceLeDiff, Nat.reduceMul, Nat.reduceLT, Nat.reduceEqDiff, Int.reduceLT, Int.reduceLE, Int.reduceAdd, Int.reduceSub, Int.reduceMul, Int.reduceToNat, reduceIte, reduceCtorEq, Nat.reduceBEq, v3_6]
    refine run_cond_f (by rfl) ?_
    refine run_driveS 80 ?_
    simp only [go_sem, Nat.reduceAdd, Nat.reduceSub, Nat.reduceLeDiff, Nat.reduceMul, Nat.reduceLT, Nat.reduceEqDiff, Int.reduceLT, Int.reduceLE, Int.reduceAdd, Int.reduceSub, Int.reduceMul, Int.reduceToNat, reduceIte, reduceCtorEq, Nat.reduceBEq, v3_8]
    refine run_cond_t (by rfl) ?_
    refine run_driveS 80 ?_
    simp only [go_sem, Nat.reduceAdd, Nat.reduceSub, Nat.reduceLeDiff, Nat.reduceMul, Nat.reduceLT, Nat.reduceEqDiff, Int.reduceLT, Int.reduceLE, Int.reduceAdd, Int.reduceSub, Int.reduceMul, Int.reduceToNat, reduceIte, reduceCtorEq, Nat.reduceBEq, v3_9]
    refine run_ret_drop Tryd.func3 res3 [0, 1, 2, 3, 4, 5, 6] (.bool true) [ivb g nG zG, ivb h nH zH, none, none, ivb l nL zL, ivb r nR zR, ivb us nU zU] rfl (by simp) ?_ ?_ ?_ ⟨rfl, rfl⟩
    · exact hfit_cons rfl bfit_ivb (hfit_cons rfl bfit_ivb (hfit_cons_none (hfit_cons_none (hfit_cons rfl bfit_ivb (hfit_cons rfl bfit_ivb (hfit_cons rfl bfit_ivb hfit_nil))))))
    · simp [uniq, wrB_ivb, wrB_none]
    · simp only [go_sem, Nat.reduceAdd, Nat.reduceSub, Nat.reduceLeDiff, Nat.reduceMul, Nat.reduceLT, Nat.reduceEqDiff, Int.reduceLT, Int.reduceLE, Int.reduceAdd, Int.reduceSub, Int.reduceMul, Int.reduceToNat, reduceIte, reduceCtorEq, Nat.reduceBEq, rr3, ren, gmap]
  · obtain rfl : m = n5 := f1.2.2.2.2.2.symm
    rw [puts_ro (by simp [wrB_ivb, wrB_ro]) rfl (by simp)]
    simp only [go_sem, Nat.reduceAdd, Nat.reduceSub, Nat.reduceLeDiff, Nat.reduceMul, Nat.reduceLT, Nat.reduceEqDiff, Int.reduceLT, Int.reduceLE, Int.reduceAdd, Int.reduceSub, Int.reduceMul, Int.reduceToNat, reduceIte, reduceCtorEq, Nat.reduceBEq, ren, rens, gmap, renB, Option.map_some, Option.map_none, scs_rens, lc_rens, rens_append, ers_rens, ecs_rens, de_ren, dv_ren, stL_ren, arL_ren, stE_ren, arE_ren, ivl_ren, stL, stE, arL, arE, eb_map]
    refine drun_drive 40 (p := (_, _)) ?_
    simp only [go_sem, Nat.reduceAdd, Nat.reduceSub, Nat.reduceLeDiff, Nat.reduceMul, Nat.reduceLT, Nat.reduceEqDiff, Int.reduceLT, Int.reduceLE, Int.reduceAdd, Int.reduceSub, Int.reduceMul, Int.reduceToNat, reduceIte, reduceCtorEq, Nat.reduceBEq]
    refine drun_end ?_
    refine run_driveS 80 ?_
    simp only [go_sem, Nat.reduceAdd, Nat.reduceSub, Nat.reduceLeDiff, Nat.reduceMul, Nat.reduceLT, Nat.reduceEqDiff, Int.reduceLT, Int.reduceLE, Int.reduceAdd, Int.reduceSub, Int.reduceMul, Int.reduceToNat, reduceIte, reduceCtorEq, Nat.reduceBEq, v3_4, hsk, hlk]
    refine run_call' rfl ?_
    simp only [go_sem, Nat.reduceAdd, Nat.reduceSub, Nat.reduceLeDiff, Nat.reduceMul, Nat.reduceLT, Nat.reduceEqDiff, Int.reduceLT, Int.reduceLE, Int.reduceAdd, Int.reduceSub, Int.reduceMul, Int.reduceToNat, reduceIte, reduceCtorEq, Nat.reduceBEq, calV]
    refine doc_scalars_at us hus nU mU zU hU 6 rfl m hn5.symm ?_
    refine run_driveS 80 ?_
    simp only [go_sem, Nat.reduceAdd, Nat.reduceSub, Nat.reduceLeDiff, Nat.reduceMul, Nat.reduceLT, Nat.reduceEqDiff, Int.reduceLT, Int.reduceLE, Int.reduceAdd, Int.reduceSub, Int.reduceMul, Int.reduceToNat, reduceIte, reduceCtorEq, Nat.reduceBEq, v3_5]
    refine run_call' rfl ?_
    simp only [go_sem, Nat.reduceAdd, Nat.reduceSub, Nat.reduceLeDiff, Nat.reduceMul, Nat.reduceLT, Nat.reduceEqDiff, Int.reduceLT, Int.reduceLE, Int.reduceAdd, Int.reduceSub, Int.reduceMul, Int.reduceToNat, reduceIte, reduceCtorEq, Nat.reduceBEq, calV]
    refine vcall_at (hfr (fun v k => v = .int .i64 4 ∧ k = [rob (fun j => us j % ell) m, none, none, none, none]) (fun e => absurd f1 (e _)) (fun k _ _ => ⟨rfl, rfl⟩) (fun k e1 e2 => by obtain rfl : k = m := (e1.2.2.2.2.2).symm; obtain ⟨j, h1, h2⟩ := f2; exact absurd h2 (e2 j h1))) [21, 10, 11, 16, 17] (by simp) ?_ ?_ ?_ ?_
    · exact hfit_cons rfl bfit_db (hfit_cons_none (hfit_cons_none (hfit_cons_none (hfit_cons_none hfit_nil))))
    · simp [uniq, wrB_rob, wrB_none]
    · simp only [ren, rens, gmap, renB, Option.map_some, Option.map_none, scs_rens, lc_rens, rens_append, ers_rens, ecs_rens, de_ren, dv_ren, stL_ren, arL_ren, stE_ren, arE_ren, ivl_ren, stL, stE, arL, arE]
    rintro v k ⟨rfl, rfl⟩
    rw [puts_ro (by simp [wrB_rob, wrB_none]) rfl (by simp)]
    simp only [go_sem, Nat.reduceAdd, Nat.reduceSub, Nat.reduceLeDiff, Nat.reduceMul, Nat.reduceLT, Nat.reduceEqDiff, Int.reduceLT, Int.reduceLE, Int.reduceAdd, Int.reduceSub, Int.reduceMul, Int.reduceToNat, reduceIte, reduceCtorEq, Nat.reduceBEq, ren, rens, gmap, renB, Option.map_some, Option.map_none, scs_rens, lc_rens, rens_append, ers_rens, ecs_rens, de_ren, dv_ren, stL_ren, arL_ren, stE_ren, arE_ren, ivl_ren, stL, stE, arL, arE, rob_map]
    refine run_driveS 80 ?_
    simp only [go_sem, Nat.reduceAdd, Nat.reduceSub, Nat.reduceLeDiff, Nat.reduceMul, Nat.reduceLT, Nat.reduceEqDiff, Int.reduceLT, Int.reduceLE, Int.reduceAdd, Int.reduceSub, Int.reduceMul, Int.reduceToNat, reduceIte, reduceCtorEq, Nat.reduceBEq, v3_6]
    refine run_cond_f (by rfl) ?_
    refine run_driveS 80 ?_
    simp only [go_sem, Nat.reduceAdd, Nat.reduceSub, Nat.reduceLeDiff, Nat.reduceMul, Nat.reduceLT, Nat.reduceEqDiff, Int.reduceLT, Int.reduceLE, Int.reduceAdd, Int.reduceSub, Int.reduceMul, Int.reduceToNat, reduceIte, reduceCtorEq, Nat.reduceBEq, v3_8]
    refine run_cond_t (by rfl) ?_
    refine run_driveS 80 ?_
    simp only [go_sem, Nat.reduceAdd, Nat.reduceSub, Nat.reduceLeDiff, Nat.reduceMul, Nat.reduceLT, Nat.reduceEqDiff, Int.reduceLT, Int.reduceLE, Int.reduceAdd, Int.reduceSub, Int.reduceMul, Int.reduceToNat, reduceIte, reduceCtorEq, Nat.reduceBEq, v3_9]
    refine run_ret_drop Tryd.func3 res3 [0, 1, 2, 3, 4, 5, 6] (.bool true) [ivb g nG zG, ivb h nH zH, none, none, ivb l nL zL, ivb r nR zR, ivb us nU zU] rfl (by simp) ?_ ?_ ?_ ⟨rfl, rfl⟩
    · exact hfit_cons rfl bfit_ivb (hfit_cons rfl bfit_ivb (hfit_cons_none (hfit_cons_none (hfit_cons rfl bfit_ivb (hfit_cons rfl bfit_ivb (hfit_cons rfl bfit_ivb hfit_nil))))))
    · simp [uniq, wrB_ivb, wrB_none]
    · simp only [go_sem, Nat.reduceAdd, Nat.reduceSub, Nat.reduceLeDiff, Nat.reduceMul, Nat.reduceLT, Nat.reduceEqDiff, Int.reduceLT, Int.reduceLE, Int.reduceAdd, Int.reduceSub, Int.reduceMul, Int.reduceToNat, reduceIte, reduceCtorEq, Nat.reduceBEq, rr3, ren, gmap]
  · obtain ⟨rfl, q1, rfl, rfl, rfl, rfl⟩ := f1
    clear hs ha
    have hlf := fun Q => left_ref (G := G) (fun j => us j % ell) (fun j => l j % ell) (fun j => r j % ell) (fun j => g j % ell) (fun j => h j % ell) n5 (P % ell) (Q' % ell) (ea % ell) (eb' % ell) q1 (fun j => mod_lt' _) f2 (fun j => mod_lt _) (fun j => mod_lt _) (fun j => mod_lt _) (fun j => mod_lt _) (mod_lt' _) (mod_lt _) (mod_lt _) (mod_lt _) Q
    have key := terms_sum us g h l r n5 P Q' ea eb' f2
    have hfr' := hfr (fun v k => v = .int .i64 0 ∧ k = [rob (fun j => us j % ell) n5, none, none, none, none]) (fun e => absurd ⟨rfl, q1, rfl, rfl, rfl, rfl⟩ (e n5)) (fun k e1 e2 => by obtain rfl : n5 = k := e1.2.2.2.2.2; obtain ⟨j, h1, h2⟩ := e2; exact absurd h2 (f2 j h1)) (fun k _ _ => ⟨rfl, rfl⟩)
    clear hfr
    have hq1 : 2 ^ n5 ≤ 1024 := Nat.pow_le_pow_right (by decide) q1
    have hq0 : 0 < 2 ^ n5 := Nat.two_pow_pos _
    have hKl : ∀ j, al (tK1 us n5 ea) (tK2 us n5 ea eb') j < 115792089237316195423570985008687907853269984665640564039457584007913129639936 := tK_lt us n5 ea eb'
    have hPl : ∀ j, al (t3 (2 ^ n5) P g l) (t3 (2 ^ n5) Q' h r) j < 115792089237316195423570985008687907853269984665640564039457584007913129639936 := tP_lt (2 ^ n5) P Q' g h l r hP hQ' hg hh hl hr
    rw [trs_prs]
    generalize al (tK1 us n5 ea) (tK2 us n5 ea eb') = KK at *
    generalize al (t3 (2 ^ n5) P g l) (t3 (2 ^ n5) Q' h r) = PP at *
    have hde := fun b => de_pos (b := b) hq0
    have heb := fun f => eb_pos (f := f) hq0
    generalize 2 ^ n5 = q at *
    generalize hM : 2 * (1 + q + n5) = M at *
    have hw1 : IntKind.i64.wrap (2 * (q : Int)) = ((2 * q : Nat) : Int) := by rw [wrap_i64 (by omega) (by omega)]; omega
    have hw2 : IntKind.i64.wrap (2 * (n5 : Int)) = ((2 * n5 : Nat) : Int) := by rw [wrap_i64 (by omega) (by omega)]; omega
    have hw3 : IntKind.i64.wrap (((2 * q : Nat) : Int) + ((2 * n5 : Nat) : Int)) = ((2 * q + 2 * n5 : Nat) : Int) := by rw [wrap_i64 (by omega) (by omega)]; omega
    have hw4 : IntKind.i64.wrap (((2 * q + 2 * n5 : Nat) : Int) + 2) = (M : Int) := by rw [wrap_i64 (by omega) (by omega)]; omega
    have hlt : ((M : Int) < (M : Int)) = False := eq_false (by omega)
    rw [puts_ro (by simp [wrB_ivb, wrB_ro]) rfl (by simp)]
    simp only [go_sem, Nat.reduceAdd, Nat.reduceSub, Nat.reduceLeDiff, Nat.reduceMul, Nat.reduceLT, Nat.reduceEqDiff, Int.reduceLT, Int.reduceLE, Int.reduceAdd, Int.reduceSub, Int.reduceMul, Int.reduceToNat, reduceIte, reduceCtorEq, Nat.reduceBEq, ren, rens, gmap, renB, Option.map_some, Option.map_none, scs_rens, lc_rens, rens_append, ers_rens, ecs_rens, de_ren, dv_ren, stL_ren, arL_ren, stE_ren, arE_ren, ivl_ren, stL, stE, arL, arE, eb_map, trs_rens]
    refine drun_drive 40 (p := (_, _)) ?_
    simp only [go_sem, Nat.reduceAdd, Nat.reduceSub, Nat.reduceLeDiff, Nat.reduceMul, Nat.reduceLT, Nat.reduceEqDiff, Int.reduceLT, Int.reduceLE, Int.reduceAdd, Int.reduceSub, Int.reduceMul, Int.reduceToNat, reduceIte, reduceCtorEq, Nat.reduceBEq]
    refine drun_end ?_
    refine run_driveS 80 ?_
    simp only [go_sem, Nat.reduceAdd, Nat.reduceSub, Nat.reduceLeDiff, Nat.reduceMul, Nat.reduceLT, Nat.reduceEqDiff, Int.reduceLT, Int.reduceLE, Int.reduceAdd, Int.reduceSub, Int.reduceMul, Int.reduceToNat, reduceIte, reduceCtorEq, Nat.reduceBEq, v3_4, hsk, hlk]
    refine run_call' rfl ?_
    simp only [go_sem, Nat.reduceAdd, Nat.reduceSub, Nat.reduceLeDiff, Nat.reduceMul, Nat.reduceLT, Nat.reduceEqDiff, Int.reduceLT, Int.reduceLE, Int.reduceAdd, Int.reduceSub, Int.reduceMul, Int.reduceToNat, reduceIte, reduceCtorEq, Nat.reduceBEq, calV]
    refine doc_scalars_at us hus nU mU zU hU 6 rfl n5 hn5.symm ?_
    refine run_driveS 80 ?_
    simp only [go_sem, Nat.reduceAdd, Nat.reduceSub, Nat.reduceLeDiff, Nat.reduceMul, Nat.reduceLT, Nat.reduceEqDiff, Int.reduceLT, Int.reduceLE, Int.reduceAdd, Int.reduceSub, Int.reduceMul, Int.reduceToNat, reduceIte, reduceCtorEq, Nat.reduceBEq, v3_5]
    refine run_call' rfl ?_
    simp only [go_sem, Nat.reduceAdd, Nat.reduceSub, Nat.reduceLeDiff, Nat.reduceMul, Nat.reduceLT, Nat.reduceEqDiff, Int.reduceLT, Int.reduceLE, Int.reduceAdd, Int.reduceSub, Int.reduceMul, Int.reduceToNat, reduceIte, reduceCtorEq, Nat.reduceBEq, calV]
    refine vcall_at hfr' [22, 10, 11, 16, 17] (by simp) ?_ ?_ ?_ ?_
    · exact hfit_cons rfl bfit_db (hfit_cons_none (hfit_cons_none (hfit_cons_none (hfit_cons_none hfit_nil))))
    · simp [uniq, wrB_rob, wrB_none]
    · simp only [ren, rens, gmap, renB, Option.map_some, Option.map_none, scs_rens, lc_rens, rens_append, ers_rens, ecs_rens, de_ren, dv_ren, stL_ren, arL_ren, stE_ren, arE_ren, ivl_ren, stL, stE, arL, arE]
    rintro v k ⟨rfl, rfl⟩
    rw [puts_ro (by simp [wrB_rob, wrB_none]) rfl (by simp)]
    simp only [go_sem, Nat.reduceAdd, Nat.reduceSub, Nat.reduceLeDiff, Nat.reduceMul, Nat.reduceLT, Nat.reduceEqDiff, Int.reduceLT, Int.reduceLE, Int.reduceAdd, Int.reduceSub, Int.reduceMul, Int.reduceToNat, reduceIte, reduceCtorEq, Nat.reduceBEq, ren, rens, gmap, renB, Option.map_some, Option.map_none, scs_rens, lc_rens, rens_append, ers_rens, ecs_rens, de_ren, dv_ren, stL_ren, arL_ren, stE_ren, arE_ren, ivl_ren, stL, stE, arL, arE, rob_map]
    refine run_driveS 80 ?_
    simp only [go_sem, Nat.reduceAdd, Nat.reduceSub, Nat.reduceLeDiff, Nat.reduceMul, Nat.reduceLT, Nat.reduceEqDiff, Int.reduceLT, Int.reduceLE, Int.reduceAdd, Int.reduceSub, Int.reduceMul, Int.reduceToNat, reduceIte, reduceCtorEq, Nat.reduceBEq, v3_6]
    refine run_cond_f (by rfl) ?_
    refine run_driveS 80 ?_
    simp only [go_sem, Nat.reduceAdd, Nat.reduceSub, Nat.reduceLeDiff, Nat.reduceMul, Nat.reduceLT, Nat.reduceEqDiff, Int.reduceLT, Int.reduceLE, Int.reduceAdd, Int.reduceSub, Int.reduceMul, Int.reduceToNat, reduceIte, reduceCtorEq, Nat.reduceBEq, v3_8]
    refine run_cond_f (by rfl) ?_
    refine run_driveS 80 ?_
    simp only [go_sem, Nat.reduceAdd, Nat.reduceSub, Nat.reduceLeDiff, Nat.reduceMul, Nat.reduceLT, Nat.reduceEqDiff, Int.reduceLT, Int.reduceLE, Int.reduceAdd, Int.reduceSub, Int.reduceMul, Int.reduceToNat, reduceIte, reduceCtorEq, Nat.reduceBEq, v3_10, hw1, hw2, hw3, hw4, hlt]
    refine run_cond_f (by rfl) ?_
    have hz0 : [V.int .u64 (nl 0), .int .u64 (nl 0), .int .u64 (nl 0), .int .u64 (nl 0)] = lc (sm (fun j => KK j * PP j) 0) := by rw [sm]; rfl
    have hloop := fun Q B0 B1 B2 B3 B4 B5 B6 B7 B8 B9 B10 B11 B12 B13 B14 B15 B16 B17 B18 B19 B20 B22 h => sum_loop (G := G) (Q := Q) B0 B1 B2 B3 B4 B5 B6 B7 B8 B9 B10 B11 B12 B13 B14 B15 B16 B17 B18 B19 B20 B22 KK PP hKl hPl M (by omega) (dv 22 n5) (R := [.c (.seq (.drw v3_20) .ret)]) h M 0 (by omega)
    unfold suh at hloop
    refine run_driveS 80 ?_
    simp only [go_sem, Nat.reduceAdd, Nat.reduceSub, Nat.reduceLeDiff, Nat.reduceMul, Nat.reduceLT, Nat.reduceEqDiff, Int.reduceLT, Int.reduceLE, Int.reduceAdd, Int.reduceSub, Int.reduceMul, Int.reduceToNat, reduceIte, reduceCtorEq, Nat.reduceBEq, v3_12, v3_13, v3_19, hz0]
    refine run_tmps ?_ (hloop _ _ _ _ _ _ _ _ _ _ _ _ _ _ _ _ _ _ _ _ _ _ _ ?_)
    · simp only [go_sem, Nat.reduceAdd, Nat.reduceSub, Nat.reduceLeDiff, Nat.reduceMul, Nat.reduceLT, Nat.reduceEqDiff, Int.reduceLT, Int.reduceLE, Int.reduceAdd, Int.reduceSub, Int.reduceMul, Int.reduceToNat, reduceIte, reduceCtorEq, Nat.reduceBEq, suv, forg, true_or, or_true]
    · clear hloop
      rw [key]
      unfold suv
      refine run_driveS 80 ?_
      simp only [go_sem, Nat.reduceAdd, Nat.reduceSub, Nat.reduceLeDiff, Nat.reduceMul, Nat.reduceLT, Nat.reduceEqDiff, Int.reduceLT, Int.reduceLE, Int.reduceAdd, Int.reduceSub, Int.reduceMul, Int.reduceToNat, reduceIte, reduceCtorEq, Nat.reduceBEq]
      refine run_drw (by kernel_rfl) ?_
      refine drun_drive 40 (p := (_, _)) ?_
      simp only [go_sem, Nat.reduceAdd, Nat.reduceSub, Nat.reduceLeDiff, Nat.reduceMul, Nat.reduceLT, Nat.reduceEqDiff, Int.reduceLT, Int.reduceLE, Int.reduceAdd, Int.reduceSub, Int.reduceMul, Int.reduceToNat, reduceIte, reduceCtorEq, Nat.reduceBEq, v3_20]
      refine drun_call' ?_
      simp only [go_sem, Nat.reduceAdd, Nat.reduceSub, Nat.reduceLeDiff, Nat.reduceMul, Nat.reduceLT, Nat.reduceEqDiff, Int.reduceLT, Int.reduceLE, Int.reduceAdd, Int.reduceSub, Int.reduceMul, Int.reduceToNat, reduceIte, reduceCtorEq, Nat.reduceBEq, calV, restore, Option.join_some, maskH, List.mapIdx_cons, List.mapIdx_nil, List.contains_cons, List.contains_nil, Bool.or_false, Bool.or_true, Bool.false_or, Bool.true_or, Nat.reduceBEq]
      refine line_of _ ?_
      refine drun_drive 40 (p := (_, _)) ?_
      simp only [go_sem, Nat.reduceAdd, Nat.reduceSub, Nat.reduceLeDiff, Nat.reduceMul, Nat.reduceLT, Nat.reduceEqDiff, Int.reduceLT, Int.reduceLE, Int.reduceAdd, Int.reduceSub, Int.reduceMul, Int.reduceToNat, reduceIte, reduceCtorEq, Nat.reduceBEq, restore, Option.join_some, maskH, List.mapIdx_cons, List.mapIdx_nil, List.contains_cons, List.contains_nil, Bool.or_false, Bool.or_true, Bool.false_or, Bool.true_or, Nat.reduceBEq]
      refine drun_call' ?_
      simp only [go_sem, Nat.reduceAdd, Nat.reduceSub, Nat.reduceLeDiff, Nat.reduceMul, Nat.reduceLT, Nat.reduceEqDiff, Int.reduceLT, Int.reduceLE, Int.reduceAdd, Int.reduceSub, Int.reduceMul, Int.reduceToNat, reduceIte, reduceCtorEq, Nat.reduceBEq, calV]
      refine vcall_at (hlf (fun v k => v = ew (lf (fun j => us j % ell) (fun j => l j % ell) (fun j => r j % ell) (fun j => g j % ell) (fun j => h j % ell) n5 (P % ell) (Q' % ell) (ea % ell) (eb' % ell)) ∧ k = [rob (fun j => us j % ell) n5, some ⟨.ro, ers q fun j => g j % ell⟩, some ⟨.ro, ers q fun j => h j % ell⟩, eb (fun j => l j % ell) n5, eb (fun j => r j % ell) n5]) ⟨rfl, rfl⟩) [22, 10, 11, 16, 17] (by simp) ?_ ?_ ?_ ?_
      · have e1 := heb (fun j => g j % ell)
        have e2 := heb (fun j => h j % ell)
        exact hfit_cons rfl bfit_db (hfit_cons (c := eb (fun j => g j % ell) q) rfl (by rw [← e1]; exact bfit_eb') (hfit_cons (c := eb (fun j => h j % ell) q) rfl (by rw [← e2]; exact bfit_eb') (hfit_cons rfl bfit_eb' (hfit_cons rfl bfit_eb' hfit_nil))))
      · simp [uniq, wrB_rob, wrB_eb, wrB_none, wrB_ro]
      · simp only [ren, rens, gmap, renB, Option.map_some, Option.map_none, scs_rens, lc_rens, rens_append, ers_rens, ecs_rens, de_ren, dv_ren, stL_ren, arL_ren, stE_ren, arE_ren, ivl_ren, stL, stE, arL, arE, hde]
      rintro v k ⟨rfl, rfl⟩
      rw [puts_ro (by simp [wrB_rob, wrB_eb, wrB_ro]) rfl (by simp)]
      simp only [go_sem, Nat.reduceAdd, Nat.reduceSub, Nat.reduceLeDiff, Nat.reduceMul, Nat.reduceLT, Nat.reduceEqDiff, Int.reduceLT, Int.reduceLE, Int.reduceAdd, Int.reduceSub, Int.reduceMul, Int.reduceToNat, reduceIte, reduceCtorEq, Nat.reduceBEq, ren, rens, gmap, renB, Option.map_some, Option.map_none, scs_rens, lc_rens, rens_append, ers_rens, ecs_rens, de_ren, dv_ren, stL_ren, arL_ren, stE_ren, arE_ren, ivl_ren, stL, stE, arL, arE, rob_map, eb_map, ew_plain]
      refine drun_drive 40 (p := (_, _)) ?_
      simp only [go_sem, Nat.reduceAdd, Nat.reduceSub, Nat.reduceLeDiff, Nat.reduceMul, Nat.reduceLT, Nat.reduceEqDiff, Int.reduceLT, Int.reduceLE, Int.reduceAdd, Int.reduceSub, Int.reduceMul, Int.reduceToNat, reduceIte, reduceCtorEq, Nat.reduceBEq]
      refine drun_call' ?_
      simp only [go_sem, Nat.reduceAdd, Nat.reduceSub, Nat.reduceLeDiff, Nat.reduceMul, Nat.reduceLT, Nat.reduceEqDiff, Int.reduceLT, Int.reduceLE, Int.reduceAdd, Int.reduceSub, Int.reduceMul, Int.reduceToNat, reduceIte, reduceCtorEq, Nat.reduceBEq, calV]
      refine e_same _ _ (Nat.lt_trans (mod_lt' _) ell_lt) (Nat.lt_trans (mod_lt' _) ell_lt) ?_
      refine drun_drive 40 (p := (_, _)) ?_
      simp only [go_sem, Nat.reduceAdd, Nat.reduceSub, Nat.reduceLeDiff, Nat.reduceMul, Nat.reduceLT, Nat.reduceEqDiff, Int.reduceLT, Int.reduceLE, Int.reduceAdd, Int.reduceSub, Int.reduceMul, Int.reduceToNat, reduceIte, reduceCtorEq, Nat.reduceBEq]
      refine drun_end ?_
      refine run_driveS 80 ?_
      simp only [go_sem, Nat.reduceAdd, Nat.reduceSub, Nat.reduceLeDiff, Nat.reduceMul, Nat.reduceLT, Nat.reduceEqDiff, Int.reduceLT, Int.reduceLE, Int.reduceAdd, Int.reduceSub, Int.reduceMul, Int.reduceToNat, reduceIte, reduceCtorEq, Nat.reduceBEq]
      refine run_ret_drop Tryd.func3 res3 [0, 1, 2, 3, 4, 5, 6] (.bool true) [ivb g nG zG, ivb h nH zH, none, none, ivb l nL zL, ivb r nR zR, ivb us nU zU] rfl (by simp) ?_ ?_ ?_ ⟨rfl, rfl⟩
      · exact hfit_cons rfl bfit_ivb (hfit_cons rfl bfit_ivb (hfit_cons_none (hfit_cons_none (hfit_cons rfl bfit_ivb (hfit_cons rfl bfit_ivb (hfit_cons rfl bfit_ivb hfit_nil))))))
      · simp [uniq, wrB_ivb, wrB_none]
      · simp only [go_sem, Nat.reduceAdd, Nat.reduceSub, Nat.reduceLeDiff, Nat.reduceMul, Nat.reduceLT, Nat.reduceEqDiff, Int.reduceLT, Int.reduceLE, Int.reduceAdd, Int.reduceSub, Int.reduceMul, Int.reduceToNat, reduceIte, reduceCtorEq, Nat.reduceBEq, rr3, ren, gmap]
end
end Go.Vs.Tryd
namespace Go.Vs.Tryd
open Go.Proofs Go.ChangeShapes Go.WideShapes Go.ChangeAt Go.RowKit
def num (z : Nat → Nat) : Nat := z 0 + 18446744073709551616 * z 1 + 340282366920938463463374607431768211456 * z 2 + 6277101735386680763835789423207666416102355444464034512896 * z 3
theorem lc_num {z : Nat → Nat} (h : ∀ k, z k < 18446744073709551616) : lc (num z) = [.int .u64 (z 0 : Int), .int .u64 (z 1 : Int), .int .u64 (z 2 : Int), .int .u64 (z 3 : Int)] := (lc_of (h 0) (h 1) (h 2) (h 3)).symm
theorem num_lt {z : Nat → Nat} (h : ∀ k, z k < 18446744073709551616) : num z < 115792089237316195423570985008687907853269984665640564039457584007913129639936 := by
  have h0 := h 0; have h1 := h 1; have h2 := h 2; have h3 := h 3
  unfold num
  omega
theorem sim_cells {W : World} {a : Addr} (hs : a.spot = none) (z : Nat → Nat → Nat) (hz : ∀ i k, z i k < 18446744073709551616) : ∀ (n : Nat), (∀ i, i < n → ∀ k, k < 4 → W.cell? (a.add (i * 4 + k)) = some (.int .u64 (z i k : Int))) →
    ∀ (j : Nat) (v : V), (scs n fun i => num (z i))[j]? = some v → ∃ x : Int, v = .int .u64 x ∧ W.cell? ⟨a.block, a.off + j, none⟩ = some (.int .u64 x)
  | 0, _, j, v, hj => by simp [scs, row] at hj
  | n + 1, h, j, v, hj => by
    have hlen := scs_len n fun i => num (z i)
    have e : (scs (n + 1) fun i => num (z i)) = (scs n fun i => num (z i)) ++ lc (num (z n)) := rfl
    rw [e] at hj
    rcases Nat.lt_or_ge j (n * 4) with hlt | hge
    · rw [List.getElem?_append_left (by rw [hlen]; exact hlt)] at hj
      exact sim_cells hs z hz n (fun i hi => h i (by omega)) j v hj
    · rw [List.getElem?_append_right (by rw [hlen]; exact hge), hlen, lc_num (hz n)] at hj
      have key : ∀ k, k < 4 → j - n * 4 = k → W.cell? ⟨a.block, a.off + j, none⟩ = some (.int .u64 (z n k : Int)) := by
        intro k hk e
        have := h n (Nat.lt_succ_self n) k hk
        rw [show n * 4 + k = j by omega] at this
        obtain ⟨b, o, sp⟩ := a
        simp only at hs
        subst hs
        rw [Addr.add_lit] at this
        exact this
      have : j - n * 4 < 4 := by
        have := (List.getElem?_eq_some_iff.1 hj).1
        simpa using this
      have : j - n * 4 = 0 ∨ j - n * 4 = 1 ∨ j - n * 4 = 2 ∨ j - n * 4 = 3 := by omega
      rcases this with e | e | e | e <;> rw [e] at hj <;> simp at hj <;> subst hj
      · exact ⟨_, rfl, key 0 (by omega) e⟩
      · exact ⟨_, rfl, key 1 (by omega) e⟩
      · exact ⟨_, rfl, key 2 (by omega) e⟩
      · exact ⟨_, rfl, key 3 (by omega) e⟩
def GlobsOk (G : Nat → List V) (W : World) : Prop := (∀ g o v, (G g)[o]? = some v → v ≠ .unk → ∃ r, conc [] v = some r ∧ W.cell? ⟨g, o, none⟩ = some r) ∧ ∀ g, W.heap.size ≤ g → G g = []
def RoB (W : World) (b : Option Blk) (p : Option Pl) : Prop :=
  b = none ∨ ∃ cs q, b = some ⟨.ro, cs⟩ ∧ p = some q ∧ q.block < W.heap.size ∧ cs.length ≤ q.size ∧ ∀ (j : Nat) v, cs[j]? = some v → v ≠ .unk → ∃ r, conc [] v = some r ∧ W.cell? ⟨q.block, q.base + j, none⟩ = some r
theorem sim_ro {G : Nat → List V} {W : World} (hG : GlobsOk G W) {ρ : Rho} {h : Heap} (hl : ρ.length = h.length) (hb : ∀ i b, h[i]? = some b → RoB W b (place ρ i)) : Sim G ρ h W := by
  have key : ∀ i b, Live h i b → ∃ q, b.kind = .ro ∧ place ρ i = some q ∧ q.block < W.heap.size ∧ b.cells.length ≤ q.size ∧ ∀ (j : Nat) v, b.cells[j]? = some v → v ≠ .unk → ∃ r, conc [] v = some r ∧ W.cell? ⟨q.block, q.base + j, none⟩ = some r := by
    intro i b hi
    rcases hb i (some b) hi with e | ⟨cs, q, e, h1, h2, h3, h4⟩
    · cases e
    · cases e; exact ⟨q, rfl, h1, h2, h3, h4⟩
  refine ⟨hl, fun i b h => ?_, fun i b r h hp j v hj hu => ?_, fun i b r h hp => ?_, fun i b r h hp hk => ?_, fun i j bi bj pi pj hij hi hj h1 h2 h3 => ?_, hG.1, hG.2⟩
  · obtain ⟨q, _, h1, _⟩ := key i b h
    exact ⟨q, h1⟩
  · obtain ⟨q, _, h1, _, _, h4⟩ := key i b h
    obtain rfl := Option.some.inj (h1.symm.trans hp)
    obtain ⟨x, e1, e2⟩ := h4 j v hj hu
    exact ⟨x, conc_ext (fun i p hp => by simp [place] at hp) _ _ e1, e2⟩
  · obtain ⟨q, _, h1, h2, h3, _⟩ := key i b h
    obtain rfl := Option.some.inj (h1.symm.trans hp)
    exact ⟨h2, h3⟩
  · obtain ⟨q, h0, _⟩ := key i b h
    exact absurd h0 hk
  · obtain ⟨q, h0, _⟩ := key i bi hi
    exact absurd h0 h3
theorem globs_one {P : Program} {W : World} {name : String} {g : Nat} (hg : P.globalNamed name = some g) {rs : Array Value} (h : W.var? P name = some rs) {cs : List V} (hc : concs [] cs = some rs.toList) : GlobsOk (fun k => if k = g then cs else []) W := by
  unfold World.var? at h
  rw [hg] at h
  simp only [Option.bind_some] at h
  split at h <;> try (cases h; done)
  rename_i cells e fr hh
  simp only [Option.some.injEq] at h
  subst h
  refine ⟨fun k o v hv _ => ?_, fun k hle => ?_⟩
  · dsimp only at hv
    split at hv
    · rename_i e0
      subst e0
      obtain ⟨x, hx, hr⟩ := concs_get hc o v hv
      refine ⟨x, hx, ?_⟩
      unfold World.cell?
      simp only [hh]
      simpa using hr
    · simp at hv
  · dsimp only
    rw [if_neg]
    rintro rfl
    have : W.heap[k]? = none := Array.getElem?_eq_none hle
    rw [this] at hh
    cases hh
variable {P : Program} {H : Type} {enc : TypeId × Value → H} {W : World} {base : Nat}
theorem elem_of {e w : TypeId} (he : P.underlying e = some (.array 4 w)) (hw : P.underlying w = some (.int .u64)) (s1 : P.cellsOf w = 1) (s4 : P.cellsOf e = 4) {n : Nat} {cs : List Value} {x : DataW H × List MemPlace} (h : DataW.trod enc P W 0 (fun _ => true) true n e cs = some x) :
    ∃ z : Nat → Nat, (∀ k, z k < 18446744073709551616) ∧ cs.length = 4 ∧ ∀ k, k < 4 → cs[k]? = some (.int .u64 (z k : Int)) := by
  obtain ⟨xs, m, _, _, hl, hxl, hel⟩ := DataW.trod_array he h
  rw [s4] at hl
  have key : ∀ k, k < 4 → ∃ z : Nat, z < 18446744073709551616 ∧ cs[k]? = some (.int .u64 (z : Int)) := by
    intro k hk
    have hk' := hel k hk
    rw [s1, Nat.mul_one] at hk'
    obtain ⟨y, hy⟩ : ∃ y, xs[k]? = some y := ⟨xs[k], List.getElem?_eq_getElem (by omega)⟩
    rw [hy] at hk'
    obtain ⟨z, e1, _, hwf⟩ := DataW.trod_int hw hk'
    have hb := bounds_u64 hwf
    refine ⟨z.toNat, by omega, ?_⟩
    have e2 : ((cs.drop k).take 1)[0]? = some (.int .u64 z) := by rw [e1]; rfl
    rw [List.getElem?_take_of_lt (by decide), List.getElem?_drop, Nat.add_zero] at e2
    rw [e2, show ((z.toNat : Nat) : Int) = z by omega]
  obtain ⟨z0, a0, b0⟩ := key 0 (by omega)
  obtain ⟨z1, a1, b1⟩ := key 1 (by omega)
  obtain ⟨z2, a2, b2⟩ := key 2 (by omega)
  obtain ⟨z3, a3, b3⟩ := key 3 (by omega)
  refine ⟨fun k => if k = 0 then z0 else if k = 1 then z1 else if k = 2 then z2 else if k = 3 then z3 else 0, fun k => ?_, hl, fun k hk => ?_⟩
  · show (if k = 0 then z0 else if k = 1 then z1 else if k = 2 then z2 else if k = 3 then z3 else 0) < _
    (repeat' split) <;> omega
  · have : k = 0 ∨ k = 1 ∨ k = 2 ∨ k = 3 := by omega
    rcases this with rfl | rfl | rfl | rfl
    · exact b0
    · exact b1
    · exact b2
    · exact b3
theorem word_of {e w : TypeId} (he : P.underlying e = some (.array 4 w)) (hw : P.underlying w = some (.int .u64)) (s1 : P.cellsOf w = 1) (s4 : P.cellsOf e = 4) {n : Nat} {cs : List Value} {x : DataW H × List MemPlace} (h : DataW.trod enc P W 0 (fun _ => true) true n e cs = some x) :
    ∃ k, k < 115792089237316195423570985008687907853269984665640564039457584007913129639936 ∧ ∀ ρ, concs ρ (lc k) = some cs := by
  obtain ⟨z, hz, hl, hc⟩ := elem_of he hw s1 s4 h
  refine ⟨num z, num_lt hz, fun ρ => ?_⟩
  rw [lc_num hz]
  match cs, hl with
  | [a, b, c, d], _ =>
    have e0 := hc 0 (by omega); have e1 := hc 1 (by omega); have e2 := hc 2 (by omega); have e3 := hc 3 (by omega)
    simp at e0 e1 e2 e3
    subst e0 e1 e2 e3
    rfl
theorem slice_of {t e w : TypeId} (ht : P.underlying t = some (.slice e)) (he : P.underlying e = some (.array 4 w)) (hw : P.underlying w = some (.int .u64)) (s1 : P.cellsOf w = 1) (s4 : P.cellsOf e = 4) {n : Nat} {v : Value} {x : DataW H × List MemPlace}
    (hok : Cell.okWide P W .any base t v) (h : DataW.trod enc P W 0 (fun _ => true) true n t [v] = some x) :
    ∃ (f : Nat → Nat) (n m : Nat) (z : Bool) (p : Option Pl), Ok n m z ∧ (∀ j, f j < 115792089237316195423570985008687907853269984665640564039457584007913129639936) ∧ RoB W (ivb f n z) p ∧ ∀ ρ i, place ρ i = p → conc ρ (ivl i n m z) = some v := by
  unfold Cell.okWide at hok
  rw [ht] at hok
  have hok : Cell.ok P W .any base t v := by
    cases v <;> exact hok
  unfold Cell.ok at hok
  rw [ht] at hok
  split at hok <;> try (exact hok.elim) <;> try (rename_i e _; cases e; done)
  all_goals try (rename_i e; cases e; done)
  all_goals try (rename_i e _ ; cases e; done)
  · exact ⟨fun _ => 0, 0, 0, true, none, ⟨Nat.le_refl _, fun _ => rfl⟩, fun _ => (by decide : (0 : Nat) < 115792089237316195423570985008687907853269984665640564039457584007913129639936), .inl rfl, fun _ _ _ => rfl⟩
  · rename_i e' a len cap heq _
    obtain rfl : e = e' := by simpa using heq
    obtain ⟨hlc, hcap, _, hspot, row, cells, hshape, _⟩ := hok
    have hblk : a.block < W.heap.size := by
      unfold World.shape? at hshape
      split at hshape
      · rename_i e
        exact (Array.getElem?_eq_some_iff.1 e).1
      · cases hshape
    rcases Go.Deep.open_slice ht h with ⟨e, _⟩ | ⟨a', len', cap', m, n, D, Pl, e, _, _, _, hm, _, hel⟩
    · simp at e
    · have e' : a = a' ∧ len = len' ∧ cap = cap' := by simpa using e
      obtain ⟨rfl, rfl, rfl⟩ := e'
      have hm' : m = cap := by rw [hm]; rfl
      have hex : ∀ i, i < len → ∃ z : Nat → Nat, (∀ k, z k < 18446744073709551616) ∧ ∀ k, k < 4 → W.cell? (a.add (i * 4 + k)) = some (.int .u64 (z k : Int)) := by
        intro i hi
        obtain ⟨cs', h1, h2⟩ := hel i (by omega)
        obtain ⟨z, hz, _, hc⟩ := elem_of he hw s1 s4 h2
        refine ⟨z, hz, fun k hk => ?_⟩
        rw [s4] at h1
        unfold World.cells? at h1
        rw [if_pos (Nat.zero_le _)] at h1
        have h3 := mapM_some_get h1 k k (by rw [List.getElem?_range hk])
        rw [hc k hk, Go.Deep.add_add] at h3
        exact h3
      obtain ⟨Z, hZ⟩ := Go.Deep.choose_lt hex
      let z' : Nat → Nat → Nat := fun i => if i < len then Z i else fun _ => 0
      have hz' : ∀ i k, z' i k < 18446744073709551616 := by
        intro i k
        show (if i < len then Z i else fun _ => 0) k < _
        split
        · rename_i hi; exact (hZ i hi).1 k
        · exact (by decide : (0 : Nat) < 18446744073709551616)
      have hc' : ∀ i, i < len → ∀ k, k < 4 → W.cell? (a.add (i * 4 + k)) = some (.int .u64 (z' i k : Int)) := by
        intro i hi k hk
        show _ = some (Value.int .u64 (((if i < len then Z i else fun _ => 0) k : Nat) : Int))
        rw [if_pos hi]
        exact (hZ i hi).2 k hk
      refine ⟨fun i => num (z' i), len, cap, false, some ⟨a.block, a.off, len * 4⟩, ⟨hlc, fun h => (by cases h)⟩, fun j => num_lt (hz' j), .inr ⟨_, _, rfl, rfl, hblk, by rw [scs_len]; exact Nat.le_refl _, fun j v hj _ => ?_⟩, fun ρ i hp => ?_⟩
      · obtain ⟨x, rfl, hx⟩ := sim_cells hspot z' hz' len hc' j v hj
        exact ⟨_, rfl, hx⟩
      · obtain ⟨b, o, sp⟩ := a
        simp only at hspot
        subst hspot
        show (place ρ i).map _ = _
        rw [hp]
        rfl
theorem calls_of {G : Nat → List V} {f : FuncId} {args : List V} {h : Heap} {u : V} (hcf : ∀ (xs : Array Value) w, (callFunc f xs).run P w = .ok (.enter f xs) w) (hro : ∀ b ∈ h, wrB b = false) (hv : VCall P G f args h fun v k => v = u ∧ k = h) {ρ : Rho} {W : World} {vs : List Value} {r : Value}
    (hs : Sim G ρ h W) (hc : concs ρ args = some vs) (hr : ∀ ρ, conc ρ u = some r) : Calls P f vs.toArray W fun e w' => e = .returned r ∧ Below W.heap.size W w' := by
  have hno : ∀ b, ¬ WR ρ h b := by
    rintro b ⟨i, bk, q, h1, h2, h3, h4⟩
    exact h3 (by
      have := hro _ (List.mem_of_getElem? h1)
      obtain ⟨k, c⟩ := bk
      cases k <;> simp [wrB] at this ⊢)
  rcases hv ρ W vs hs hc with ⟨_, h⟩ | ⟨v', w', h, _⟩
  · refine h.mono fun e w' hr' => ?_
    obtain ⟨ρ', x, h', y, rfl, h2, h3, h4, rfl, _⟩ := hr'
    rw [hr] at h2
    cases h2
    exact ⟨rfl, h4.os, h4.tape, h4.output, h4.size, fun b hb => h4.same b hb (hno b)⟩
  · rw [hcf] at h
    cases h
end Go.Vs.Tryd
namespace Go.Proofs.YtebekndmhgmfbaaDoor
open Go.ChangeShapes Go.WideShapes Go.ChangeAt Go.RowKit Go.Vs
set_option maxRecDepth 100000
theorem u22 : Tryd.prog.underlying 22 = some (.int .u64) := by kernel_rfl
theorem u23 : Tryd.prog.underlying 23 = some (.array 4 22) := by kernel_rfl
theorem u24 : Tryd.prog.underlying 24 = some (.slice 23) := by kernel_rfl
theorem c22 : Tryd.prog.cellsOf 22 = 1 := by kernel_rfl
theorem c23 : Tryd.prog.cellsOf 23 = 4 := by kernel_rfl
theorem u27 : Tryd.prog.underlying 27 = some (.array 4 22) := by kernel_rfl
theorem c27 : Tryd.prog.cellsOf 27 = 4 := by kernel_rfl
theorem u127 : Tryd.prog.underlying 127 = some (.array 4 27) := by kernel_rfl
theorem c127 : Tryd.prog.cellsOf 127 = 16 := by kernel_rfl
theorem four {n : Nat} {W : World} {base : Nat} {sp : Nat → Bool} {held : Bool} {enc : TypeId × Value → Unit} {cs : List Value} {a b c d : Int} {p : List MemPlace} (h : DataW.trod enc Tryd.prog W base sp held n 27 cs = some (.agg [.lit (.int .u64 a), .lit (.int .u64 b), .lit (.int .u64 c), .lit (.int .u64 d)], p)) :
    cs = [.int .u64 a, .int .u64 b, .int .u64 c, .int .u64 d] := by
  obtain ⟨xs, m, _, ex, hlen, hl, hel⟩ := DataW.trod_array u27 h
  rw [c27] at hlen
  match cs, hlen with
  | [v0, v1, v2, v3], _ =>
    match xs, hl with
    | [x0, x1, x2, x3], _ =>
      have e3 := (DataW.agg.inj (Prod.mk.inj ex).1)
      simp only [List.map_cons, List.map_nil, List.cons.injEq, and_true] at e3
      have k0 := hel 0 (by omega); have k1 := hel 1 (by omega); have k2 := hel 2 (by omega); have k3 := hel 3 (by omega)
      rw [c22] at k0 k1 k2 k3
      obtain ⟨z0, a0, b0, _⟩ := DataW.trod_int u22 k0
      obtain ⟨z1, a1, b1, _⟩ := DataW.trod_int u22 k1
      obtain ⟨z2, a2, b2, _⟩ := DataW.trod_int u22 k2
      obtain ⟨z3, a3, b3, _⟩ := DataW.trod_int u22 k3
      simp_all
def tblV : Array Value := #[.int .u64 6346243789798364141, .int .u64 1503914060200516822, .int .u64 0, .int .u64 1152921504606846976, .int .u64 15486807595281847581, .int .u64 14334777244411350896, .int .u64 18446744073709551614, .int .u64 1152921504606846975, .int .u64 11819153939886771969, .int .u64 14991950615390032711, .int .u64 14910419812499177061, .int .u64 259310039853996605, .int .u64 6346243789798364139, .int .u64 1503914060200516822, .int .u64 0, .int .u64 1152921504606846976]
theorem tableCells {W : World} {rest : List (String × DataW Unit)} (hp : laidMet Tryd.prog (("veil/scalar.table", Rows.laid_veil_scalar_table) :: rest) W) : W.var? Tryd.prog "veil/scalar.table" = some tblV := by
  obtain ⟨ps, ⟨g, t, cs, fuel, p, q, hg, ht, hv, hd, _, _⟩, _, _⟩ := hp
  obtain rfl := Option.some.inj ((show Tryd.prog.globalNamed "veil/scalar.table" = some 0 by kernel_rfl).symm.trans hg)
  obtain rfl := Option.some.inj ((show (Tryd.prog.globals[0]?).map (·.type) = some 127 by kernel_rfl).symm.trans ht)
  obtain ⟨xs, m, _, ex, hlen, hl, hel⟩ := DataW.trod_array u127 hd
  rw [c127] at hlen
  match xs, hl with
  | [x0, x1, x2, x3], _ =>
    have e3 := (DataW.agg.inj (Prod.mk.inj ex).1)
    simp only [List.map_cons, List.map_nil, List.cons.injEq, and_true] at e3
    obtain ⟨e0, e1, e2, e3⟩ := e3
    have k0 := hel 0 (by omega); have k1 := hel 1 (by omega); have k2 := hel 2 (by omega); have k3 := hel 3 (by omega)
    rw [c27] at k0 k1 k2 k3
    obtain ⟨d0, p0⟩ := x0
    obtain ⟨d1, p1⟩ := x1
    obtain ⟨d2, p2⟩ := x2
    obtain ⟨d3, p3⟩ := x3
    simp only at e0 e1 e2 e3
    subst e0 e1 e2 e3
    have f0 := four k0
    have f1 := four k1
    have f2 := four k2
    have f3 := four k3
    rw [hv]
    obtain ⟨l⟩ := cs
    simp only at f0 f1 f2 f3 hlen
    have hsplit : l = (l.drop (0 * 4)).take 4 ++ (l.drop (1 * 4)).take 4 ++ (l.drop (2 * 4)).take 4 ++ (l.drop (3 * 4)).take 4 := by
      match l, hlen with
      | [_, _, _, _, _, _, _, _, _, _, _, _, _, _, _, _], _ => rfl
    rw [hsplit, f0, f1, f2, f3]
    rfl
def GT : Nat → List V := fun g => if g = 0 then Go.Vs.Tryd.tbl else []
theorem globs_of {W : World} (h : W.var? Tryd.prog "veil/scalar.table" = some tblV) : Go.Vs.Tryd.GlobsOk GT W :=
  Go.Vs.Tryd.globs_one (show Tryd.prog.globalNamed "veil/scalar.table" = some 0 by kernel_rfl) h (by rfl)
def flds (P : Program) (t : TypeId) : Option (List (Nat × Nat)) := match P.underlying t with
  | some (.struct fs) => some (fs.toList.map fun f => (f.offset, f.type))
  | _ => none
theorem flds_some {P : Program} {t : TypeId} {l : List (Nat × Nat)} (h : flds P t = some l) : ∃ fs, P.underlying t = some (.struct fs) ∧ fs.toList.map (fun f => (f.offset, f.type)) = l := by
  unfold flds at h
  split at h
  · rename_i fs e
    exact ⟨fs, e, Option.some.inj h⟩
  · cases h
theorem u26 : ∃ fs, Tryd.prog.underlying 26 = some (.struct fs) ∧ fs.toList.map (fun f => (f.offset, f.type)) = [(0, 23), (4, 23), (8, 24), (9, 24), (10, 24), (11, 24), (12, 24), (13, 24), (14, 23), (18, 23), (22, 4), (23, 24), (24, 9), (25, 3)] := flds_some (by kernel_rfl)
theorem c24 : Tryd.prog.cellsOf 24 = 1 := by kernel_rfl
theorem c4 : Tryd.prog.cellsOf 4 = 1 := by kernel_rfl
theorem c9 : Tryd.prog.cellsOf 9 = 1 := by kernel_rfl
theorem c3 : Tryd.prog.cellsOf 3 = 1 := by kernel_rfl
theorem c26 : Tryd.prog.cellsOf 26 = 26 := by kernel_rfl
theorem u4 : Tryd.prog.underlying 4 = some .bool := by kernel_rfl
theorem u9 : Tryd.prog.underlying 9 = some .string := by kernel_rfl
theorem u3 : Tryd.prog.underlying 3 = some (.int .i64) := by kernel_rfl
theorem t26 : Tryd.prog.cellTypes Tryd.prog.depth 26 = some [22, 22, 22, 22, 22, 22, 22, 22, 24, 24, 24, 24, 24, 24, 22, 22, 22, 22, 22, 22, 22, 22, 4, 24, 9, 3] := by kernel_rfl
theorem case_of {H : Type} {enc : TypeId × Value → H} {W : World} {base : Nat} {v : Value} {d : DataW H} {ps : List MemPlace} (hval : Value.okWide Tryd.prog W .any base 26 v) (h : DataW.Trod enc Tryd.prog W 0 (fun _ => true) true 26 v d ps) :
    ∃ (g hh a b l r u : Nat → Nat) (Q P ea eb nG mG nH mH nA mA nB mB nL mL nR mR nU mU : Nat) (zG zH zA zB zL zR zU : Bool) (sc : Bool) (lab : ByteArray) (N : Int) (ρ : Rho),
      ((∀ j, g j < 2^256) ∧ (∀ j, hh j < 2^256) ∧ (∀ j, a j < 2^256) ∧ (∀ j, b j < 2^256) ∧ (∀ j, l j < 2^256) ∧ (∀ j, r j < 2^256) ∧ (∀ j, u j < 2^256)) ∧
      (Q < 2^256 ∧ P < 2^256 ∧ ea < 2^256 ∧ eb < 2^256) ∧
      (Go.Vs.Tryd.Ok nG mG zG ∧ Go.Vs.Tryd.Ok nH mH zH ∧ Go.Vs.Tryd.Ok nA mA zA ∧ Go.Vs.Tryd.Ok nB mB zB ∧ Go.Vs.Tryd.Ok nL mL zL ∧ Go.Vs.Tryd.Ok nR mR zR ∧ Go.Vs.Tryd.Ok nU mU zU) ∧
      (N < 2^63 ∧ -2^63 ≤ N) ∧
      (∀ {G}, Go.Vs.Tryd.GlobsOk G W → Sim G ρ [Go.Vs.Tryd.ivb g nG zG, Go.Vs.Tryd.ivb hh nH zH, Go.Vs.Tryd.ivb a nA zA, Go.Vs.Tryd.ivb b nB zB, Go.Vs.Tryd.ivb l nL zL, Go.Vs.Tryd.ivb r nR zR, Go.Vs.Tryd.ivb u nU zU] W) ∧
      conc ρ (.agg (Go.Vs.Tryd.cas Q P (Go.Vs.Tryd.ivl 0 nG mG zG) (Go.Vs.Tryd.ivl 1 nH mH zH) (Go.Vs.Tryd.ivl 2 nA mA zA) (Go.Vs.Tryd.ivl 3 nB mB zB) (Go.Vs.Tryd.ivl 4 nL mL zL) (Go.Vs.Tryd.ivl 5 nR mR zR) ea eb (.bool sc) (Go.Vs.Tryd.ivl 6 nU mU zU) (.str lab) (.int .i64 N))) = some v := by
  obtain ⟨fuel, h⟩ := h
  obtain ⟨fs, hfs, hof⟩ := u26
  have hv : ∃ cs, v = .agg cs ∧ cs.size = 26 ∧ Row.okWide Tryd.prog W .any base 26 cs := by
    unfold Value.okWide at hval
    rw [hfs] at hval
    simpa [c26] using hval
  obtain ⟨cs, rfl, hsz, ts, hts, _, hcell⟩ := hv
  rw [t26] at hts
  obtain rfl := Option.some.inj hts
  obtain ⟨xs, n, _, _, hlen, hxl, hel⟩ := DataW.trod_struct hfs h
  have hfl : fs.size = 14 := by have := congrArg List.length hof; simpa using this
  have fld : ∀ (i o t : Nat), (fs.toList.map (fun f => (f.offset, f.type)))[i]? = some (o, t) → ∃ x, DataW.trod enc Tryd.prog W 0 (fun _ => true) true n t ((cs.toList.drop o).take (Tryd.prog.cellsOf t)) = some x := by
    intro i o t hi
    rw [List.getElem?_map] at hi
    simp only [Option.map_eq_some_iff, Prod.mk.injEq] at hi
    obtain ⟨f, hf, rfl, rfl⟩ := hi
    have hlt : i < fs.size := by
      have := (List.getElem?_eq_some_iff.1 hf).1
      simpa using this
    have := hel i f (by simpa using hf)
    obtain ⟨y, hy⟩ : ∃ y, xs[i]? = some y := ⟨xs[i], List.getElem?_eq_getElem (by omega)⟩
    exact ⟨y, this.trans hy⟩
  rw [hof] at fld
  have wd : ∀ (i o : Nat), ([(0, 23), (4, 23), (8, 24), (9, 24), (10, 24), (11, 24), (12, 24), (13, 24), (14, 23), (18, 23), (22, 4), (23, 24), (24, 9), (25, 3)] : List (Nat × Nat))[i]? = some (o, 23) → ∃ k, k < 2^256 ∧ ∀ ρ, concs ρ (Go.Vs.Tryd.lc k) = some ((cs.toList.drop o).take 4) := by
    intro i o hi
    obtain ⟨x, hx⟩ := fld i o 23 hi
    rw [c23] at hx
    exact Go.Vs.Tryd.word_of u23 u22 c22 c23 hx
  have sl : ∀ (i o : Nat), ([(0, 23), (4, 23), (8, 24), (9, 24), (10, 24), (11, 24), (12, 24), (13, 24), (14, 23), (18, 23), (22, 4), (23, 24), (24, 9), (25, 3)] : List (Nat × Nat))[i]? = some (o, 24) → o < 26 → ([22, 22, 22, 22, 22, 22, 22, 22, 24, 24, 24, 24, 24, 24, 22, 22, 22, 22, 22, 22, 22, 22, 4, 24, 9, 3] : List Nat)[o]? = some 24 →
      ∃ (f : Nat → Nat) (n m : Nat) (z : Bool) (p : Option Pl) (w : Value), Go.Vs.Tryd.Ok n m z ∧ (∀ j, f j < 2^256) ∧ Go.Vs.Tryd.RoB W (Go.Vs.Tryd.ivb f n z) p ∧ (∀ ρ i, place ρ i = p → conc ρ (Go.Vs.Tryd.ivl i n m z) = some w) ∧ cs.toList[o]? = some w := by
    intro i o hi ho ht
    obtain ⟨x, hx⟩ := fld i o 24 hi
    have hlt : o < cs.toList.length := by simpa [hsz] using ho
    obtain ⟨w, hw⟩ : ∃ w, cs.toList[o]? = some w := ⟨cs.toList[o], List.getElem?_eq_getElem hlt⟩
    have e1 : (cs.toList.drop o).take 1 = [w] := by
      rw [List.drop_eq_getElem_cons hlt]
      have := (List.getElem?_eq_some_iff.1 hw).2
      simp [this]
    rw [c24, e1] at hx
    obtain ⟨u, hu, hok⟩ := hcell o w (by simpa using hw)
    have hu' : u = 24 := by
      have : o % 26 = o := Nat.mod_eq_of_lt ho
      simp only [List.length_cons, List.length_nil, Nat.reduceAdd, this] at hu
      rw [ht] at hu
      exact (Option.some.inj hu).symm
    subst hu'
    obtain ⟨f, n, m, z, p, k1, k2, k3, k4⟩ := Go.Vs.Tryd.slice_of u24 u23 u22 c22 c23 hok hx
    exact ⟨f, n, m, z, p, w, k1, k2, k3, k4, hw⟩
  obtain ⟨Q, hQ, eQ⟩ := wd 0 0 rfl
  obtain ⟨P, hP, eP⟩ := wd 1 4 rfl
  obtain ⟨ea, hea, eea⟩ := wd 8 14 rfl
  obtain ⟨eb, heb, eeb⟩ := wd 9 18 rfl
  obtain ⟨g, nG, mG, zG, pG, wG, g1, g2, g3, g4, g5⟩ := sl 2 8 rfl (by omega) rfl
  obtain ⟨hh, nH, mH, zH, pH, wH, h1, h2, h3, h4, h5⟩ := sl 3 9 rfl (by omega) rfl
  obtain ⟨a, nA, mA, zA, pA, wA, a1, a2, a3, a4, a5⟩ := sl 4 10 rfl (by omega) rfl
  obtain ⟨b, nB, mB, zB, pB, wB, b1, b2, b3, b4, b5⟩ := sl 5 11 rfl (by omega) rfl
  obtain ⟨l, nL, mL, zL, pL, wL, l1, l2, l3, l4, l5⟩ := sl 6 12 rfl (by omega) rfl
  obtain ⟨r, nR, mR, zR, pR, wR, r1, r2, r3, r4, r5⟩ := sl 7 13 rfl (by omega) rfl
  obtain ⟨u, nU, mU, zU, pU, wU, u1, u2, u3', u4', u5⟩ := sl 11 23 rfl (by omega) rfl
  obtain ⟨xb, hxb⟩ := fld 10 22 4 rfl
  obtain ⟨xs', hxs⟩ := fld 12 24 9 rfl
  obtain ⟨xn, hxn⟩ := fld 13 25 3 rfl
  rw [c4] at hxb
  rw [c9] at hxs
  rw [c3] at hxn
  obtain ⟨sc, eb1, _⟩ := DataW.trod_bool u4 hxb
  obtain ⟨lab, es1, _⟩ := DataW.trod_string u9 hxs
  obtain ⟨N, en1, _, hN⟩ := DataW.trod_int u3 hxn
  have hN' := bounds_i64 hN
  refine ⟨g, hh, a, b, l, r, u, Q, P, ea, eb, nG, mG, nH, mH, nA, mA, nB, mB, nL, mL, nR, mR, nU, mU, zG, zH, zA, zB, zL, zR, zU, sc, lab, N, [pG, pH, pA, pB, pL, pR, pU], ⟨g2, h2, a2, b2, l2, r2, u2⟩, ⟨hQ, hP, hea, heb⟩, ⟨g1, h1, a1, b1, l1, r1, u1⟩, ⟨by omega, by omega⟩, fun hG => Go.Vs.Tryd.sim_ro hG rfl fun i b hi => ?_, ?_⟩
  · match i, hi with
    | 0, hi => cases hi; exact g3
    | 1, hi => cases hi; exact h3
    | 2, hi => cases hi; exact a3
    | 3, hi => cases hi; exact b3
    | 4, hi => cases hi; exact l3
    | 5, hi => cases hi; exact r3
    | 6, hi => cases hi; exact u3'
    | n + 7, hi => simp at hi
  · have hl26 : cs.toList.length = 26 := by simpa using hsz
    obtain ⟨L⟩ := cs
    simp only at *
    match L, hl26 with
    | [v0, v1, v2, v3, v4, v5, v6, v7, v8, v9, v10, v11, v12, v13, v14, v15, v16, v17, v18, v19, v20, v21, v22, v23, v24, v25], _ =>
      simp only [List.drop_zero, List.drop_succ_cons, List.take_succ_cons, List.take_zero, List.take_nil, List.getElem?_cons_zero, List.getElem?_cons_succ, Option.some.injEq, List.cons.injEq, and_true] at *
      subst g5 h5 a5 b5 l5 r5 u5 eb1 es1 en1
      simp only [Go.Vs.Tryd.cas, conc]
      rw [Option.map_eq_some_iff]
      refine ⟨_, ?_, rfl⟩
      refine concs_append (r := [v0, v1, v2, v3]) (eQ _) (concs_append (r := [v4, v5, v6, v7]) (eP _) ?_)
      refine concs_cons.2 ⟨_, _, g4 _ 0 rfl, concs_cons.2 ⟨_, _, h4 _ 1 rfl, concs_cons.2 ⟨_, _, a4 _ 2 rfl, concs_cons.2 ⟨_, _, b4 _ 3 rfl, concs_cons.2 ⟨_, _, l4 _ 4 rfl, concs_cons.2 ⟨_, _, r4 _ 5 rfl, ?_, rfl⟩, rfl⟩, rfl⟩, rfl⟩, rfl⟩, rfl⟩
      refine concs_append (r := [v14, v15, v16, v17]) (eea _) (concs_append (r := [v18, v19, v20, v21]) (eeb _) ?_)
      refine concs_cons.2 ⟨_, _, rfl, concs_cons.2 ⟨_, _, u4' _ 6 rfl, rfl, rfl⟩, rfl⟩
end Go.Proofs.YtebekndmhgmfbaaDoor
namespace Go.Vs
open Go
theorem onlyLeaving_of_quiet {P : Program} {m : Machine} (h : m.quiet) : m.OnlyLeaving P :=
  ⟨fun g hg => ⟨0, show g.status = .finished by have := List.all_eq_true.1 h.1 g hg; simpa using this⟩, h.2⟩
theorem leavingWide_of_handed {a : Assume} {C : Checked} {os : Os} {f : FuncId} {r : Reach} {Pre : World → Array Value → Prop} {Post : World → Array Value → Value → World → Prop}
    (h : ReturnsInHanded a C os f r Pre Post) : ReturnsInLeavingWide a C os f r Pre Post := fun enter =>
  ReturnsInOpen.mono (fun _ _ _ x => ⟨x.2.1, onlyLeaving_of_quiet x.1, x.2.2⟩) (fun _ x => x) (h enter)
theorem holds_tied_goes (Lk : Looks) {p : Pinned} {s : OpenSpec} {c : OpenClaim} (kinds : List LaidKind) (tests : Bool) (har : Bool × String) (lk g : Bool)
    (hc : c.holds p s) (hw : c.wfByText s = true) (htie : c.laidByTextAt Lk p kinds tests)
    (hst : c.start = .entering) (hnb : c.noBlocks = false ∧ c.again = false) (hm : p.checked.prog.mainIs = some (har.1, har.2.toList)) (hn : (!har.1 && har.2.isEmpty && !lk) = false)
    (hl : ∀ f fn, p.checked.prog.funcNamed c.func = some f → p.checked.prog.funcs[f]? = some fn → lk = p.checked.prog.looks [] ∧ ∀ (j : Nat) t, fn.params[j]? = some t → p.checked.prog.wantsStandIn t = false)
    (hg : g = c.goesBy p.checked.prog) :
    Claim7.holds p (.plain s) { stood := { row := c, standIns := [], harness := har, looks := lk }, kinds := [], alts := [], goes := g, laidByText := true, laidKinds := kinds, laidTests := tests, laidLooks := Lk } := by
  have h6 : ∀ r : OpenClaim, Claim7.isSixth { stood := { row := r, standIns := [], harness := har, looks := lk }, kinds := [] } = false := fun r => by simpa [Claim7.isSixth] using hn
  refine ⟨?_, fun D hD => (by cases hD), htie, (fun h => by cases h), hg⟩
  exact Claim7.tied_new_at Lk kinds tests (Claim7.new_of_sixth hc har lk hst hnb hm (h6 c) hl) hw
end Go.Vs
namespace Go.Proofs.YtebekndmhgmfbaaDoor
open Go.ChangeShapes Go.WideShapes Go.ChangeAt Go.RowKit Go.Vs
set_option maxRecDepth 100000
def laidT : List (String × DataW Unit) := [("veil/scalar.table", Rows.laid_veil_scalar_table), ("veil/veilref01.Zero", Rows.laid_veil_veilref01_Zero), ("veil/veilref01.One", Rows.laid_veil_veilref01_One), ("veil/veilref01.prime", Rows.laid_veil_veilref01_prime)]
theorem tableOf {W : World} (h : laidMetH Tryd.prog laidT W) : W.var? Tryd.prog "veil/scalar.table" = some tblV := by
  rw [MakeChecks.laidMetH_plain _ _ _ (by kernel_rfl)] at h
  exact tableCells h
theorem enters3 (xs : Array Value) (w : World) : (callFunc 3 xs).run Tryd.prog w = .ok (.enter 3 xs) w := by
  have h1 : Tryd.f3.name ≠ "runtime.NumGoroutine" := by have := Go.Vs.Tryd.nm3; simpa using this
  obtain ⟨c, hb, _⟩ := Option.bind_eq_some_iff.1 Go.Vs.Tryd.code3
  simp [callFunc, Tryd.func3, h1, hb]
theorem own : ownKnob Tryd.prog.godebug = none := by kernel_rfl
theorem lifted3 (os : Os) (started : os.Started) (H : Type) (enc : TypeId × Value → H) :
    ReturnsInHanded {} Tryd.checked os 3 .any (fun w args => (Rows.ipaTermsSpec.pre enc Tryd.prog Tryd.f3 [] false w args ∧ laidMetH Tryd.prog laidT w) ∧ sizedMet enc Tryd.prog Tryd.f3 (OpenSpec.ofChange Rows.ipaTermsSpec) false w args)
      (Rows.ipaTermsSpec.post enc Tryd.prog Tryd.f3 false true false false) := by
  refine returnsInHanded_of_change_and (C := Tryd.checked) (X := fun w _ => laidMetH Tryd.prog laidT w) (fun _ _ _ hh h => h.of_heap hh) own started (by kernel_rfl) Tryd.func3
    (ChangeSpec.witness_shaped (enc := enc) (C := Tryd.checked) (os := os) (X := fun w _ => laidMetH Tryd.prog laidT w) false (World.laidAll Tryd.prog os laidT)
      #[.agg #[.int .u64 0, .int .u64 0, .int .u64 0, .int .u64 0, .int .u64 0, .int .u64 0, .int .u64 0, .int .u64 0, .slice none 0 0, .slice none 0 0, .slice none 0 0, .slice none 0 0, .slice none 0 0, .slice none 0 0, .int .u64 0, .int .u64 0, .int .u64 0, .int .u64 0, .int .u64 0, .int .u64 0, .int .u64 0, .int .u64 0, .bool false, .slice none 0 0, .string ⟨#[]⟩, .int .i64 0]] 8 (World.laidAll_os _ _ _)
      (World.shaped_of_ZipB (by kernel_rfl) (by kernel_rfl)) (by kernel_rfl) (by kernel_rfl) (by kernel_rfl)
      (by rw [MakeChecks.laidMetH_plain _ _ _ (by kernel_rfl)]; exact laidMet_laidAll _ (by kernel_rfl) (by kernel_rfl))) ?_
  intro W base args ds gs before hval0 hW _ _ hL _
  have hval : ∀ (j : Nat) t v, Tryd.f3.params[j]? = some t → args[j]? = some v → Value.okWide Tryd.prog W .any base t v := hval0
  have hW' := hW
  obtain ⟨p, q, hA0, hV, rfl, _, _⟩ := hW
  have hA : DataW.TrodAll enc Tryd.prog W 0 (fun _ => true) true Tryd.f3.params.toList args.toList ds p := hA0
  rw [Tryd.params3] at hA hval
  obtain ⟨v0, d0, rfl, rfl, h0⟩ := trodAll_one hA
  obtain ⟨rfl, rfl⟩ := trodVars_none hV
  have hGl := globs_of (tableOf hL)
  obtain ⟨g, hh, a, b, l, r, u, Q, P, ea, eb, nG, mG, nH, mH, nA, mA, nB, mB, nL, mL, nR, mR, nU, mU, zG, zH, zA, zB, zL, zR, zU, sc, lab, N, ρ, ⟨k1, k2, k3, k4, k5, k6, k7⟩, ⟨l1, l2, l3, l4⟩, ⟨o1, o2, o3, o4, o5, o6, o7⟩, _, hsim, hcon⟩ := case_of (hval 0 26 v0 rfl rfl) h0
  have hs := hsim hGl
  have hs' : Sim GT ρ [Go.Vs.Tryd.ivb g nG zG, Go.Vs.Tryd.ivb hh nH zH, none, none, Go.Vs.Tryd.ivb l nL zL, Go.Vs.Tryd.ivb r nR zR, Go.Vs.Tryd.ivb u nU zU] W := by
    refine hs.weaken rfl fun i b hl => ⟨b, ?_, rfl, fun _ => rfl⟩
    unfold Live at *
    match i, hl with
    | 0, hl => exact hl
    | 1, hl => exact hl
    | 2, hl => simp at hl
    | 3, hl => simp at hl
    | 4, hl => exact hl
    | 5, hl => exact hl
    | 6, hl => exact hl
    | n + 7, hl => simp at hl
  have hv := Go.Vs.Tryd.law (G := GT) rfl g hh l r u k1 k2 k5 k6 k7 Q P ea eb nG mG nH mH nA mA nB mB nL mL nR mR nU mU zG zH zA zB zL zR zU o1 o2 o5 o6 o7 l2 l1 l3 l4 (.bool sc) (.str lab) (fun _ => rfl) (fun _ => rfl) rfl rfl N
  simp only [List.append_nil] at hW'
  have hlt : ∀ x ∈ p, x.block < W.heap.size := fun x hx => hW'.lt x hx
  refine (Go.Vs.Tryd.calls_of (vs := [v0]) (r := .bool true) enters3 ?_ hv hs' (by simp only [concs, hcon]; rfl) (fun _ => rfl)).mono fun e W' ⟨he, hb⟩ => ?_
  · intro x hx
    simp only [List.mem_cons, List.not_mem_nil, or_false] at hx
    rcases hx with rfl | rfl | rfl | rfl | rfl | rfl | rfl <;> first | rfl | exact Go.Vs.Tryd.wrB_ivb ..
  subst he
  exact ⟨_, rfl, _, _, _, [], _, [], hW', trodAll_mk1 (shut_bool Tryd.underlying4 _), trodAll_mk1 (Below.trod (show laidOutB Tryd.prog = true by kernel_rfl) (by kernel_rfl) (of_decide_eq_true (by kernel_rfl)) h0 hb hlt), rfl, hb.frame _, fun h => by cases h⟩
theorem row_holds : Rows.IpaTermsSaid :=
  OpenClaim.holds_of_wide_leaving 3 Tryd.f3 rfl rfl rfl rfl rfl rfl rfl ⟨rfl, rfl, rfl, rfl, rfl⟩ rfl rfl rfl rfl rfl (by kernel_rfl) Tryd.func3 (by kernel_rfl)
    (of_decide_eq_true (by kernel_rfl)) (by unfold Func.isWrapper; first | (rw [if_pos (by decide +kernel)]; kernel_rfl) | (rw [if_neg (by decide +kernel)]; exact ⟨rfl, rfl⟩))
    (fun os started H enc _ => leavingWide_of_handed (lifted3 os started H enc))
theorem card_holds : Rows.IpaTermsCardSaid :=
  holds_tied_goes .later [.data, .data, .wider, .data] true (true, "e7b2dc34eb24a75de1937d354b257480441d75086bc927952eaf1758129a8485") true true row_holds (by kernel_rfl) ipaTerms_row_tie rfl ⟨rfl, rfl⟩ (by kernel_rfl) rfl
    (fun f fn hf hfn => by
      obtain rfl : f = 3 := Option.some.inj ((show Tryd.prog.funcNamed "veil/veillaw12.IpaTerms" = some 3 by kernel_rfl).symm.trans hf) |>.symm
      obtain rfl : fn = Tryd.f3 := (Option.some.inj (Tryd.func3.symm.trans hfn)).symm
      exact ⟨by kernel_rfl, fun j t ht => by
        rw [Tryd.params3] at ht
        have hm : t ∈ [26] := by simpa using Array.mem_of_getElem? ht
        have hall : ([26].all fun u => !Tryd.prog.wantsStandIn u) = true := by kernel_rfl
        exact (show Tryd.prog.wantsStandIn t = false by simpa using List.all_eq_true.1 hall t hm)⟩)
    (by kernel_rfl)
end Go.Proofs.YtebekndmhgmfbaaDoor
