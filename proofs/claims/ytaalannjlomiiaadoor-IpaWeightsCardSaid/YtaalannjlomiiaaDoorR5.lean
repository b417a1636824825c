/- R5: what the functions of the program answer, over the machine of plain values. -/
import Derived.Test.YtaalannjlomiiaaDoorR4
set_option linter.unusedVariables false
set_option linter.unusedSimpArgs false
namespace Go.Vs.Tryd
open Go.Proofs
variable {G : Nat → List V}
set_option linter.unusedSimpArgs false
attribute [local go_sem] List.length_append List.all_append ge_iff_le gt_iff_lt Int.natCast_nonneg Int.toNat_natCast Nat.mul_one b_and_ll b_shr_ll b_mul_ll b_add_ll b_or_ll b_shl_ll pick_ll pick_lc pick_bb driveS stopV drive stepV exo expo evs fillV isNil nilKind eqV eqL optA optM sliceAtV ev kn ldc stc splice appV srcV lenV setd wantV exitV rvs rv one List.length_cons List.length_nil List.cons_append List.nil_append List.append_nil List.replicate List.getD_cons_zero List.getD_cons_succ List.set_cons_zero List.set_cons_succ List.getElem?_cons_zero List.getElem?_cons_succ List.getElem?_nil List.take_succ_cons List.take_zero List.take_nil List.drop_succ_cons List.drop_zero List.drop_nil List.all_cons List.all_nil List.any_cons List.any_nil Bool.and_true Bool.true_and Bool.and_self Option.map_some Option.map_none Option.bind_some Option.some.injEq Nat.add_zero Nat.zero_add Int.toNat_zero Int.toNat_one Int.zero_add Int.add_zero if_true if_false ite_true ite_false and_true true_and and_self ne_eq not_false_eq_true not_true_eq_false decide_true decide_false Bool.false_eq_true Bool.not_true Bool.not_false beq_self_eq_true BEq.rfl Bool.not_eq_true Nat.le_refl Int.le_refl Nat.zero_le List.foldl List.map_cons List.map_nil Prod.mk.injEq Int.cast_ofNat_Int Int.zero_le_ofNat b_add_cc b_add_cl b_add_lc b_mul_cc b_mul_cl b_mul_lc b_sub_cc b_sub_cl b_sub_lc b_and_cc b_and_cl b_and_lc b_or_cc b_or_cl b_or_lc b_xor_cc b_xor_cl b_xor_lc b_andNot_cc b_andNot_cl b_andNot_lc b_shr_cc b_shr_cl b_shr_lc b_shl_cc b_shl_cl b_shl_lc b_lss b_leq b_gtr b_geq b_add_i b_sub_i b_mul_i beq_cc beq_cl beq_lc beq_ll b_quo_i b_rem_i neg_u64 wrap_i64 driveD stepD idsAt idOf maskH_nil restore_nil restore_mask List.filterMap_nil List.filterMap_cons VOp.looks VOp.makes exA cells_agg cells_int cells_bool cells_str cells_nilp cells_ptr cells_glob cells_nils cells_sl cells_nilf cells_fn cells_nili cells_ifc known_agg known_tup known_int known_bool known_str known_nilp known_ptr known_glob known_nils known_sl known_nilf known_fn known_nili known_ifc known_unk one_agg one_tup one_int one_bool one_str one_nilp one_ptr one_glob one_nils one_sl one_nilf one_fn one_nili one_ifc asK_int asN_int asB_bool asS_str asG_agg asT_tup
attribute [local go_sem ↓] lc_len lc_take lc_drop lc_known lc_one lc_rens lc_cells lw_known lw_agg lw_asG
attribute [local go_sem] lt_nat lt_natl lt_lnat lt_ll
set_option maxRecDepth 100000
set_option maxHeartbeats 1000000

def hp (ws : Nat → Nat) (n : Nat) : Nat → Nat
  | 0 => 0
  | k + 1 => 65536 * hp ws n k + ws (n - 1 - k)
theorem hp_step (ws : Nat → Nat) (n k : Nat) : (65536 * (hp ws n k % ell) + ws (n - 1 - k)) % ell = hp ws n (k + 1) % ell := by
  rw [hp, Nat.add_mod, Nat.mul_mod_mod, ← Nat.add_mod]

def wrow (n : Nat) (ws : Nat → Nat) : List V := row n fun j => [.int .u64 (ws j : Int)]
theorem wrow_get (n : Nat) (ws : Nat → Nat) {i : Nat} (h : i < n) : ((wrow n ws).drop i).take 1 = [.int .u64 (ws i : Int)] := by
  have := row_get' (s := 1) (e := fun j => [V.int .u64 (ws j : Int)]) (fun _ => rfl) (n := n) h
  rwa [Nat.mul_one] at this
theorem wrow_rens (n : Nat) (ws g : Nat → Nat) : rens g (wrow n ws) = wrow n ws := row_rens (fun j => by simp only [rens, ren]) n
theorem wrow_fit (n : Nat) (ws g : Nat → Nat) : fit g (wrow n ws) (wrow n ws) := fit_same (by rw [wrow_rens])

theorem words_loop (n : Nat) (hn : n < 1000000) (cap : Cap) (ws : Nat → Nat) (hws : ∀ j, ws j < 65536) {Q : V → Heap → Prop} (hQ : Q (lw (hp ws n n % ell)) [some ⟨.ro, wrow n ws⟩]) : ∀ m, m ≤ n → Run Tryd.prog G 30 1 Q ([.l v30_7, .b 0, .c (.seq (.reg v30_9) .ret)],
    ⟨[.sl 0 0 n cap, .unk, .ptr 1 0, .ptr 2 0, .int .i64 ((m : Int) - 1)] ++ List.replicate 14 .unk, [some ⟨.ro, wrow n ws⟩, some ⟨.rw, lc 0⟩, some ⟨.rw, lc (hp ws n (n - m) % ell)⟩]⟩)
  | 0, _ => by
    refine run_loop_eq v30_7.eq_1 ?_
    refine run_driveS 80 ?_
    simp only [go_sem, Nat.reduceAdd, Nat.reduceSub, Nat.reduceLeDiff, Nat.reduceMul, Nat.reduceLT, Nat.reduceEqDiff, Int.reduceLT, Int.reduceLE, Int.reduceAdd, Int.reduceSub, Int.reduceMul, Int.reduceToNat, reduceIte, reduceCtorEq, Nat.reduceBEq, v30_3]
    refine run_exit rfl ?_
    refine run_driveS 80 ?_
    simp only [go_sem, Nat.reduceAdd, Nat.reduceSub, Nat.reduceLeDiff, Nat.reduceMul, Nat.reduceLT, Nat.reduceEqDiff, Int.reduceLT, Int.reduceLE, Int.reduceAdd, Int.reduceSub, Int.reduceMul, Int.reduceToNat, reduceIte, reduceCtorEq, Nat.reduceBEq, v30_9]
    refine run_ret_drop Tryd.func30 res30 [0] (lw (hp ws n n % ell)) _ rfl (by simp) ?_ ?_ ?_ hQ
    · simp only [go_sem, Nat.reduceAdd, Nat.reduceSub, Nat.reduceLeDiff, Nat.reduceMul, Nat.reduceLT, Nat.reduceEqDiff, Int.reduceLT, Int.reduceLE, Int.reduceAdd, Int.reduceSub, Int.reduceMul, Int.reduceToNat, reduceIte, reduceCtorEq, Nat.reduceBEq, hfit, lc_fit, scs_fit, fit, ren, gmap, lw_plain, true_or, or_true, wrow_fit]
    · simp [uniq, wrB]
    · simp only [go_sem, Nat.reduceAdd, Nat.reduceSub, Nat.reduceLeDiff, Nat.reduceMul, Nat.reduceLT, Nat.reduceEqDiff, Int.reduceLT, Int.reduceLE, Int.reduceAdd, Int.reduceSub, Int.reduceMul, Int.reduceToNat, reduceIte, reduceCtorEq, Nat.reduceBEq, r30, lw_plain, Nat.sub_zero]
  | m + 1, hm => by
    have ih := words_loop n hn cap ws hws hQ m (by omega)
    rw [show ((m + 1 : Nat) : Int) - 1 = (m : Int) by omega]
    have h0 : ((m : Int) < (n : Int)) = True := eq_true (by omega)
    have hg := wrow_get n ws (i := m) (by omega)
    have hw : IntKind.i64.wrap ((m : Int) - 1) = (m : Int) - 1 := wrap_i64 (by omega) (by omega)
    have hstep := hp_step ws n (n - (m + 1))
    rw [show n - 1 - (n - (m + 1)) = m by omega, show n - (m + 1) + 1 = n - m by omega] at hstep
    refine run_loop_eq v30_7.eq_1 ?_
    refine run_driveS 80 ?_
    simp only [go_sem, Nat.reduceAdd, Nat.reduceSub, Nat.reduceLeDiff, Nat.reduceMul, Nat.reduceLT, Nat.reduceEqDiff, Int.reduceLT, Int.reduceLE, Int.reduceAdd, Int.reduceSub, Int.reduceMul, Int.reduceToNat, reduceIte, reduceCtorEq, Nat.reduceBEq, v30_3, v30_5]
    refine run_drw (by kernel_rfl) ?_
    refine drun_drive 40 (p := (_, _)) ?_
    simp only [go_sem, Nat.reduceAdd, Nat.reduceSub, Nat.reduceLeDiff, Nat.reduceMul, Nat.reduceLT, Nat.reduceEqDiff, Int.reduceLT, Int.reduceLE, Int.reduceAdd, Int.reduceSub, Int.reduceMul, Int.reduceToNat, reduceIte, reduceCtorEq, Nat.reduceBEq, v30_4, h0, hg]
    refine drun_call' ?_
    simp only [go_sem, Nat.reduceAdd, Nat.reduceSub, Nat.reduceLeDiff, Nat.reduceMul, Nat.reduceLT, Nat.reduceEqDiff, Int.reduceLT, Int.reduceLE, Int.reduceAdd, Int.reduceSub, Int.reduceMul, Int.reduceToNat, reduceIte, reduceCtorEq, Nat.reduceBEq, calV]
    refine ref_step _ _ (mod_lt' _) (hws m) ?_
    rw [hstep]
    refine drun_drive 40 (p := (_, _)) ?_
    simp only [go_sem, Nat.reduceAdd, Nat.reduceSub, Nat.reduceLeDiff, Nat.reduceMul, Nat.reduceLT, Nat.reduceEqDiff, Int.reduceLT, Int.reduceLE, Int.reduceAdd, Int.reduceSub, Int.reduceMul, Int.reduceToNat, reduceIte, reduceCtorEq, Nat.reduceBEq]
    refine drun_end ?_
    refine run_driveS 80 ?_
    simp only [go_sem, Nat.reduceAdd, Nat.reduceSub, Nat.reduceLeDiff, Nat.reduceMul, Nat.reduceLT, Nat.reduceEqDiff, Int.reduceLT, Int.reduceLE, Int.reduceAdd, Int.reduceSub, Int.reduceMul, Int.reduceToNat, reduceIte, reduceCtorEq, Nat.reduceBEq, v30_6, hw]
    refine run_rename [0, 1, 2] rfl (by simp) ?_ ?_ ?_ ih
    · simp only [go_sem, Nat.reduceAdd, Nat.reduceSub, Nat.reduceLeDiff, Nat.reduceMul, Nat.reduceLT, Nat.reduceEqDiff, Int.reduceLT, Int.reduceLE, Int.reduceAdd, Int.reduceSub, Int.reduceMul, Int.reduceToNat, reduceIte, reduceCtorEq, Nat.reduceBEq, hfit, lc_fit, scs_fit, fit, ren, gmap, lw_plain, true_or, or_true, wrow_fit]
    · simp [uniq, wrB]
    · simp only [go_sem, Nat.reduceAdd, Nat.reduceSub, Nat.reduceLeDiff, Nat.reduceMul, Nat.reduceLT, Nat.reduceEqDiff, Int.reduceLT, Int.reduceLE, Int.reduceAdd, Int.reduceSub, Int.reduceMul, Int.reduceToNat, reduceIte, reduceCtorEq, Nat.reduceBEq, hfit, lc_fit, scs_fit, fit, ren, gmap, lw_plain, true_or, or_true]

theorem ref_words (n : Nat) (hn : n < 1000000) (cap : Cap) (ws : Nat → Nat) (hws : ∀ j, ws j < 65536) (Q : V → Heap → Prop) (hQ : Q (lw (hp ws n n % ell)) [some ⟨.ro, wrow n ws⟩]) : VCall Tryd.prog G 30 [.sl 0 0 n cap] [some ⟨.ro, wrow n ws⟩] Q := by
  refine vcall_body Tryd.func30 nm30 code30 nt30 ?_
  have hw : IntKind.i64.wrap ((n : Int) - 1) = (n : Int) - 1 := wrap_i64 (by omega) (by omega)
  refine run_driveS 80 ?_
  simp only [go_sem, Nat.reduceAdd, Nat.reduceSub, Nat.reduceLeDiff, Nat.reduceMul, Nat.reduceLT, Nat.reduceEqDiff, Int.reduceLT, Int.reduceLE, Int.reduceAdd, Int.reduceSub, Int.reduceMul, Int.reduceToNat, reduceIte, reduceCtorEq, Nat.reduceBEq, v30, v30_0, v30_1, v30_2, v30_8, hw]
  refine run_rename [0, 1, 2] rfl (by simp) ?_ ?_ ?_ (words_loop n hn cap ws hws hQ n (Nat.le_refl n))
  · rw [Nat.sub_self, show hp ws n 0 % ell = 0 from rfl]
    simp only [go_sem, Nat.reduceAdd, Nat.reduceSub, Nat.reduceLeDiff, Nat.reduceMul, Nat.reduceLT, Nat.reduceEqDiff, Int.reduceLT, Int.reduceLE, Int.reduceAdd, Int.reduceSub, Int.reduceMul, Int.reduceToNat, reduceIte, reduceCtorEq, Nat.reduceBEq, hfit, lc_fit, scs_fit, fit, ren, gmap, lw_plain, true_or, or_true, wrow_fit, lc_zero]
  · simp [uniq, wrB]
  · simp only [go_sem, Nat.reduceAdd, Nat.reduceSub, Nat.reduceLeDiff, Nat.reduceMul, Nat.reduceLT, Nat.reduceEqDiff, Int.reduceLT, Int.reduceLE, Int.reduceAdd, Int.reduceSub, Int.reduceMul, Int.reduceToNat, reduceIte, reduceCtorEq, Nat.reduceBEq, hfit, lc_fit, scs_fit, fit, ren, gmap, lw_plain, true_or, or_true]

theorem getD_lt {l : List Nat} {b : Nat} (h : ∀ x ∈ l, x < b) (hb : 0 < b) (j : Nat) : l.getD j 0 < b := by
  rw [List.getD_eq_getElem?_getD]
  cases hj : l[j]? with
  | none => exact hb
  | some x => exact h x (List.mem_of_getElem? hj)
theorem and16 (x : Nat) (hx : x < 18446744073709551616) : a64 x 65535 = x % 65536 := by
  unfold a64
  rw [show 65535 % 18446744073709551616 = 2 ^ 16 - 1 from rfl, Nat.and_two_pow_sub_one_eq_mod, Nat.mod_eq_of_lt hx]
theorem quarter (a : Nat) (ha : a < 18446744073709551616) : ∃ w0 w1 w2 w3 : Nat, a64 a 65535 = w0 ∧ a64 (r64 a 16) 65535 = w1 ∧ a64 (r64 a 32) 65535 = w2 ∧ r64 a 48 = w3 ∧ w0 < 65536 ∧ w1 < 65536 ∧ w2 < 65536 ∧ w3 < 65536 ∧ a = w0 + 65536 * w1 + 4294967296 * w2 + 281474976710656 * w3 := by
  have e1 : r64 a 16 = a / 65536 := rfl
  have e2 : r64 a 32 = a / 4294967296 := rfl
  have e3 : r64 a 48 = a / 281474976710656 := rfl
  refine ⟨_, _, _, _, rfl, rfl, rfl, rfl, ?_⟩
  rw [e1, e2, e3, and16 _ ha, and16 _ (by omega), and16 _ (by omega)]
  omega

theorem ref_least (A : Nat) (hA : A < 115792089237316195423570985008687907853269984665640564039457584007913129639936) {h : Heap} {R : V → Heap → Prop} (hQ : R (lw (A % ell)) h) : VCall Tryd.prog G 19 [lw A] h R := by
  refine vcall_plain (Q := fun v => v = lw (A % ell)) ?_ (fun g => by simp only [rens, ren, lw_plain]) (fun v g hv => by subst hv; exact lw_plain _ g) (fun v hv => by subst hv; exact hQ)
  obtain ⟨a0, a1, a2, a3, ha0, ha1, ha2, ha3, ea, eA⟩ := limbs A
  have eA := eA hA
  rw [ea]
  refine vcall_body Tryd.func19 nm19 code19 nt19 ?_
  refine run_driveS 80 ?_
  simp only [go_sem, Nat.reduceAdd, Nat.reduceSub, Nat.reduceLeDiff, Nat.reduceMul, Nat.reduceLT, Nat.reduceEqDiff, Int.reduceLT, Int.reduceLE, Int.reduceAdd, Int.reduceSub, Int.reduceMul, Int.reduceToNat, reduceIte, reduceCtorEq, Nat.reduceBEq, v19, v19_0, v19_1, v19_2, v19_8]
  obtain ⟨w0_0, w0_1, w0_2, w0_3, p0_0, p0_1, p0_2, p0_3, q0_0, q0_1, q0_2, q0_3, f0⟩ := quarter a0 ha0
  refine run_loop_eq v19_7.eq_1 ?_
  refine run_driveS 80 ?_
  simp only [go_sem, Nat.reduceAdd, Nat.reduceSub, Nat.reduceLeDiff, Nat.reduceMul, Nat.reduceLT, Nat.reduceEqDiff, Int.reduceLT, Int.reduceLE, Int.reduceAdd, Int.reduceSub, Int.reduceMul, Int.reduceToNat, reduceIte, reduceCtorEq, Nat.reduceBEq, v19_3, v19_5]
  refine run_drw (by kernel_rfl) ?_
  refine drun_drive 40 (p := (_, _)) ?_
  simp only [go_sem, Nat.reduceAdd, Nat.reduceSub, Nat.reduceLeDiff, Nat.reduceMul, Nat.reduceLT, Nat.reduceEqDiff, Int.reduceLT, Int.reduceLE, Int.reduceAdd, Int.reduceSub, Int.reduceMul, Int.reduceToNat, reduceIte, reduceCtorEq, Nat.reduceBEq, v19_4, p0_0, p0_1, p0_2, p0_3]
  refine drun_end ?_
  refine run_driveS 80 ?_
  simp only [go_sem, Nat.reduceAdd, Nat.reduceSub, Nat.reduceLeDiff, Nat.reduceMul, Nat.reduceLT, Nat.reduceEqDiff, Int.reduceLT, Int.reduceLE, Int.reduceAdd, Int.reduceSub, Int.reduceMul, Int.reduceToNat, reduceIte, reduceCtorEq, Nat.reduceBEq, v19_6]
  obtain ⟨w1_0, w1_1, w1_2, w1_3, p1_0, p1_1, p1_2, p1_3, q1_0, q1_1, q1_2, q1_3, f1⟩ := quarter a1 ha1
  refine run_loop_eq v19_7.eq_1 ?_
  refine run_driveS 80 ?_
  simp only [go_sem, Nat.reduceAdd, Nat.reduceSub, Nat.reduceLeDiff, Nat.reduceMul, Nat.reduceLT, Nat.reduceEqDiff, Int.reduceLT, Int.reduceLE, Int.reduceAdd, Int.reduceSub, Int.reduceMul, Int.reduceToNat, reduceIte, reduceCtorEq, Nat.reduceBEq, v19_3, v19_5]
  refine run_drw (by kernel_rfl) ?_
  refine drun_drive 40 (p := (_, _)) ?_
  simp only [go_sem, Nat.reduceAdd, Nat.reduceSub, Nat.reduceLeDiff, Nat.reduceMul, Nat.reduceLT, Nat.reduceEqDiff, Int.reduceLT, Int.reduceLE, Int.reduceAdd, Int.reduceSub, Int.reduceMul, Int.reduceToNat, reduceIte, reduceCtorEq, Nat.reduceBEq, v19_4, p1_0, p1_1, p1_2, p1_3]
  refine drun_end ?_
  refine run_driveS 80 ?_
  simp only [go_sem, Nat.reduceAdd, Nat.reduceSub, Nat.reduceLeDiff, Nat.reduceMul, Nat.reduceLT, Nat.reduceEqDiff, Int.reduceLT, Int.reduceLE, Int.reduceAdd, Int.reduceSub, Int.reduceMul, Int.reduceToNat, reduceIte, reduceCtorEq, Nat.reduceBEq, v19_6]
  obtain ⟨w2_0, w2_1, w2_2, w2_3, p2_0, p2_1, p2_2, p2_3, q2_0, q2_1, q2_2, q2_3, f2⟩ := quarter a2 ha2
  refine run_loop_eq v19_7.eq_1 ?_
  refine run_driveS 80 ?_
  simp only [go_sem, Nat.reduceAdd, Nat.reduceSub, Nat.reduceLeDiff, Nat.reduceMul, Nat.reduceLT, Nat.reduceEqDiff, Int.reduceLT, Int.reduceLE, Int.reduceAdd, Int.reduceSub, Int.reduceMul, Int.reduceToNat, reduceIte, reduceCtorEq, Nat.reduceBEq, v19_3, v19_5]
  refine run_drw (by kernel_rfl) ?_
  refine drun_drive 40 (p := (_, _)) ?_
  simp only [go_sem, Nat.reduceAdd, Nat.reduceSub, Nat.reduceLeDiff, Nat.reduceMul, Nat.reduceLT, Nat.reduceEqDiff, Int.reduceLT, Int.reduceLE, Int.reduceAdd, Int.reduceSub, Int.reduceMul, Int.reduceToNat, reduceIte, reduceCtorEq, Nat.reduceBEq, v19_4, p2_0, p2_1, p2_2, p2_3]
  refine drun_end ?_
  refine run_driveS 80 ?_
  simp only [go_sem, Nat.reduceAdd, Nat.reduceSub, Nat.reduceLeDiff, Nat.reduceMul, Nat.reduceLT, Nat.reduceEqDiff, Int.reduceLT, Int.reduceLE, Int.reduceAdd, Int.reduceSub, Int.reduceMul, Int.reduceToNat, reduceIte, reduceCtorEq, Nat.reduceBEq, v19_6]
  obtain ⟨w3_0, w3_1, w3_2, w3_3, p3_0, p3_1, p3_2, p3_3, q3_0, q3_1, q3_2, q3_3, f3⟩ := quarter a3 ha3
  refine run_loop_eq v19_7.eq_1 ?_
  refine run_driveS 80 ?_
  simp only [go_sem, Nat.reduceAdd, Nat.reduceSub, Nat.reduceLeDiff, Nat.reduceMul, Nat.reduceLT, Nat.reduceEqDiff, Int.reduceLT, Int.reduceLE, Int.reduceAdd, Int.reduceSub, Int.reduceMul, Int.reduceToNat, reduceIte, reduceCtorEq, Nat.reduceBEq, v19_3, v19_5]
  refine run_drw (by kernel_rfl) ?_
  refine drun_drive 40 (p := (_, _)) ?_
  simp only [go_sem, Nat.reduceAdd, Nat.reduceSub, Nat.reduceLeDiff, Nat.reduceMul, Nat.reduceLT, Nat.reduceEqDiff, Int.reduceLT, Int.reduceLE, Int.reduceAdd, Int.reduceSub, Int.reduceMul, Int.reduceToNat, reduceIte, reduceCtorEq, Nat.reduceBEq, v19_4, p3_0, p3_1, p3_2, p3_3]
  refine drun_end ?_
  refine run_driveS 80 ?_
  simp only [go_sem, Nat.reduceAdd, Nat.reduceSub, Nat.reduceLeDiff, Nat.reduceMul, Nat.reduceLT, Nat.reduceEqDiff, Int.reduceLT, Int.reduceLE, Int.reduceAdd, Int.reduceSub, Int.reduceMul, Int.reduceToNat, reduceIte, reduceCtorEq, Nat.reduceBEq, v19_6]
  refine run_loop_eq v19_7.eq_1 ?_
  refine run_driveS 80 ?_
  simp only [go_sem, Nat.reduceAdd, Nat.reduceSub, Nat.reduceLeDiff, Nat.reduceMul, Nat.reduceLT, Nat.reduceEqDiff, Int.reduceLT, Int.reduceLE, Int.reduceAdd, Int.reduceSub, Int.reduceMul, Int.reduceToNat, reduceIte, reduceCtorEq, Nat.reduceBEq, v19_3]
  refine run_exit rfl ?_
  refine run_driveS 80 ?_
  simp only [go_sem, Nat.reduceAdd, Nat.reduceSub, Nat.reduceLeDiff, Nat.reduceMul, Nat.reduceLT, Nat.reduceEqDiff, Int.reduceLT, Int.reduceLE, Int.reduceAdd, Int.reduceSub, Int.reduceMul, Int.reduceToNat, reduceIte, reduceCtorEq, Nat.reduceBEq, v19_9]
  refine run_call' rfl ?_
  simp only [go_sem, Nat.reduceAdd, Nat.reduceSub, Nat.reduceLeDiff, Nat.reduceMul, Nat.reduceLT, Nat.reduceEqDiff, Int.reduceLT, Int.reduceLE, Int.reduceAdd, Int.reduceSub, Int.reduceMul, Int.reduceToNat, reduceIte, reduceCtorEq, Nat.reduceBEq, calV]
  have hlt : ∀ x ∈ [w0_0, w0_1, w0_2, w0_3, w1_0, w1_1, w1_2, w1_3, w2_0, w2_1, w2_2, w2_3, w3_0, w3_1, w3_2, w3_3], x < 65536 := by
    intro x hx
    simp only [List.mem_cons, List.not_mem_nil, or_false] at hx
    omega
  have hrow : wrow 16 (fun j => [w0_0, w0_1, w0_2, w0_3, w1_0, w1_1, w1_2, w1_3, w2_0, w2_1, w2_2, w2_3, w3_0, w3_1, w3_2, w3_3].getD j 0) = [.int .u64 (w0_0 : Int), .int .u64 (w0_1 : Int), .int .u64 (w0_2 : Int), .int .u64 (w0_3 : Int), .int .u64 (w1_0 : Int), .int .u64 (w1_1 : Int), .int .u64 (w1_2 : Int), .int .u64 (w1_3 : Int), .int .u64 (w2_0 : Int), .int .u64 (w2_1 : Int), .int .u64 (w2_2 : Int), .int .u64 (w2_3 : Int), .int .u64 (w3_0 : Int), .int .u64 (w3_1 : Int), .int .u64 (w3_2 : Int), .int .u64 (w3_3 : Int)] := rfl
  have hval : hp (fun j => [w0_0, w0_1, w0_2, w0_3, w1_0, w1_1, w1_2, w1_3, w2_0, w2_1, w2_2, w2_3, w3_0, w3_1, w3_2, w3_3].getD j 0) 16 16 = A := by
    have : hp (fun j => [w0_0, w0_1, w0_2, w0_3, w1_0, w1_1, w1_2, w1_3, w2_0, w2_1, w2_2, w2_3, w3_0, w3_1, w3_2, w3_3].getD j 0) 16 16 = 65536 * (65536 * (65536 * (65536 * (65536 * (65536 * (65536 * (65536 * (65536 * (65536 * (65536 * (65536 * (65536 * (65536 * (65536 * (65536 * 0 + w3_3) + w3_2) + w3_1) + w3_0) + w2_3) + w2_2) + w2_1) + w2_0) + w1_3) + w1_2) + w1_1) + w1_0) + w0_3) + w0_2) + w0_1) + w0_0 := rfl
    rw [this]
    omega
  refine vcall_at (ref_words 16 (by decide) (.grow 1) (fun j => [w0_0, w0_1, w0_2, w0_3, w1_0, w1_1, w1_2, w1_3, w2_0, w2_1, w2_2, w2_3, w3_0, w3_1, w3_2, w3_3].getD j 0) (getD_lt hlt (by decide)) (fun v h => v = lw (A % ell) ∧ h = [some ⟨.ro, wrow 16 fun j => [w0_0, w0_1, w0_2, w0_3, w1_0, w1_1, w1_2, w1_3, w2_0, w2_1, w2_2, w2_3, w3_0, w3_1, w3_2, w3_3].getD j 0⟩]) ⟨by rw [hval], rfl⟩) [9] (by simp) ?_ ?_ ?_ ?_
  · rw [hrow]
    simp only [go_sem, Nat.reduceAdd, Nat.reduceSub, Nat.reduceLeDiff, Nat.reduceMul, Nat.reduceLT, Nat.reduceEqDiff, Int.reduceLT, Int.reduceLE, Int.reduceAdd, Int.reduceSub, Int.reduceMul, Int.reduceToNat, reduceIte, reduceCtorEq, Nat.reduceBEq, hfit, lc_fit, scs_fit, fit, ren, gmap, lw_plain, true_or, or_true]
  · simp [uniq, wrB]
  · simp only [go_sem, Nat.reduceAdd, Nat.reduceSub, Nat.reduceLeDiff, Nat.reduceMul, Nat.reduceLT, Nat.reduceEqDiff, Int.reduceLT, Int.reduceLE, Int.reduceAdd, Int.reduceSub, Int.reduceMul, Int.reduceToNat, reduceIte, reduceCtorEq, Nat.reduceBEq, ren, rens, gmap]
  · rintro v h'' ⟨rfl, rfl⟩
    simp only [go_sem, Nat.reduceAdd, Nat.reduceSub, Nat.reduceLeDiff, Nat.reduceMul, Nat.reduceLT, Nat.reduceEqDiff, Int.reduceLT, Int.reduceLE, Int.reduceAdd, Int.reduceSub, Int.reduceMul, Int.reduceToNat, reduceIte, reduceCtorEq, Nat.reduceBEq, ren, rens, gmap, puts, wrB, Bool.false_eq_true, if_false, lw_plain]
    refine run_driveS 80 ?_
    simp only [go_sem, Nat.reduceAdd, Nat.reduceSub, Nat.reduceLeDiff, Nat.reduceMul, Nat.reduceLT, Nat.reduceEqDiff, Int.reduceLT, Int.reduceLE, Int.reduceAdd, Int.reduceSub, Int.reduceMul, Int.reduceToNat, reduceIte, reduceCtorEq, Nat.reduceBEq]
    refine run_ret_drop Tryd.func19 res19 [] (lw (A % ell)) [] rfl (by simp) trivial (by simp [uniq]) ?_ ⟨rfl, rfl⟩
    simp only [go_sem, Nat.reduceAdd, Nat.reduceSub, Nat.reduceLeDiff, Nat.reduceMul, Nat.reduceLT, Nat.reduceEqDiff, Int.reduceLT, Int.reduceLE, Int.reduceAdd, Int.reduceSub, Int.reduceMul, Int.reduceToNat, reduceIte, reduceCtorEq, Nat.reduceBEq, r19, lw_plain]
end Go.Vs.Tryd
