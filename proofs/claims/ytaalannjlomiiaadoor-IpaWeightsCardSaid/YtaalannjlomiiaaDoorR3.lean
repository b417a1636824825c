/- R3: what the functions of the program answer, over the machine of plain values. -/
import Derived.Test.YtaalannjlomiiaaDoorR1
import Derived.Test.YtaalannjlomiiaaDoorT9
set_option linter.unusedVariables false
set_option linter.unusedSimpArgs false
namespace Go.Vs.Tryd
open Go.Proofs
variable {G : Nat → List V}
set_option linter.unusedSimpArgs false
attribute [local go_sem] List.length_append List.all_append ge_iff_le gt_iff_lt Int.natCast_nonneg Int.toNat_natCast Nat.mul_one b_and_ll b_shr_ll b_mul_ll b_add_ll b_or_ll b_shl_ll pick_ll pick_lc pick_bb driveS stopV drive stepV exo expo evs fillV isNil nilKind eqV eqL optA optM sliceAtV ev kn ldc stc splice appV srcV lenV setd wantV exitV rvs rv one List.length_cons List.length_nil List.cons_append List.nil_append List.append_nil List.replicate List.getD_cons_zero List.getD_cons_succ List.set_cons_zero List.set_cons_succ List.getElem?_cons_zero List.getElem?_cons_succ List.getElem?_nil List.take_succ_cons List.take_zero List.take_nil List.drop_succ_cons List.drop_zero List.drop_nil List.all_cons List.all_nil List.any_cons List.any_nil Bool.and_true Bool.true_and Bool.and_self Option.map_some Option.map_none Option.bind_some Option.some.injEq Nat.add_zero Nat.zero_add Int.toNat_zero Int.toNat_one Int.zero_add Int.add_zero if_true if_false ite_true ite_false and_true true_and and_self ne_eq not_false_eq_true not_true_eq_false decide_true decide_false Bool.false_eq_true Bool.not_true Bool.not_false beq_self_eq_true BEq.rfl Bool.not_eq_true Nat.le_refl Int.le_refl Nat.zero_le List.foldl List.map_cons List.map_nil Prod.mk.injEq Int.cast_ofNat_Int Int.zero_le_ofNat b_add_cc b_add_cl b_add_lc b_mul_cc b_mul_cl b_mul_lc b_sub_cc b_sub_cl b_sub_lc b_and_cc b_and_cl b_and_lc b_or_cc b_or_cl b_or_lc b_xor_cc b_xor_cl b_xor_lc b_andNot_cc b_andNot_cl b_andNot_lc b_shr_cc b_shr_cl b_shr_lc b_shl_cc b_shl_cl b_shl_lc b_lss b_leq b_gtr b_geq b_add_i b_sub_i b_mul_i beq_cc beq_cl beq_lc beq_ll b_quo_i b_rem_i neg_u64 wrap_i64 driveD stepD idsAt idOf maskH_nil restore_nil restore_mask List.filterMap_nil List.filterMap_cons VOp.looks VOp.makes exA cells_agg cells_int cells_bool cells_str cells_nilp cells_ptr cells_glob cells_nils cells_sl cells_nilf cells_fn cells_nili cells_ifc known_agg known_tup known_int known_bool known_str known_nilp known_ptr known_glob known_nils known_sl known_nilf known_fn known_nili known_ifc known_unk one_agg one_tup one_int one_bool one_str one_nilp one_ptr one_glob one_nils one_sl one_nilf one_fn one_nili one_ifc asK_int asN_int asB_bool asS_str asG_agg asT_tup
attribute [local go_sem ↓] lc_len lc_take lc_drop lc_known lc_one lc_rens lc_cells lw_known lw_agg lw_asG
attribute [local go_sem] lt_nat lt_natl lt_lnat lt_ll
set_option maxRecDepth 100000
set_option maxHeartbeats 1000000

theorem limbs' (A : Nat) : ∃ a0 a1 a2 a3 : Nat, a0 < 18446744073709551616 ∧ a1 < 18446744073709551616 ∧ a2 < 18446744073709551616 ∧ a3 < 18446744073709551616 ∧ lc A = [.int .u64 (a0 : Int), .int .u64 (a1 : Int), .int .u64 (a2 : Int), .int .u64 (a3 : Int)] ∧
    (A < 115792089237316195423570985008687907853269984665640564039457584007913129639936 → A = a0 + 18446744073709551616 * a1 + 340282366920938463463374607431768211456 * a2 + 6277101735386680763835789423207666416102355444464034512896 * a3) := by
  refine ⟨_, _, _, _, Nat.mod_lt _ (by decide), Nat.mod_lt _ (by decide), Nat.mod_lt _ (by decide), Nat.mod_lt _ (by decide), rfl, fun h => ?_⟩
  omega
theorem lc_of {d0 d1 d2 d3 : Nat} (h0 : d0 < 18446744073709551616) (h1 : d1 < 18446744073709551616) (h2 : d2 < 18446744073709551616) (h3 : d3 < 18446744073709551616) :
    [V.int .u64 (d0 : Int), .int .u64 (d1 : Int), .int .u64 (d2 : Int), .int .u64 (d3 : Int)] = lc (d0 + 18446744073709551616 * d1 + 340282366920938463463374607431768211456 * d2 + 6277101735386680763835789423207666416102355444464034512896 * d3) := by
  have := lw_of h0 h1 h2 h3
  unfold lw at this
  injection this with this
  exact this.symm

/-- Bits that do not meet are added. -/
theorem or_add (i a b : Nat) (hb : b < 2 ^ i) (hs : 2 ^ i * a + b < 18446744073709551616) : o64 (2 ^ i * a) b = 2 ^ i * a + b := by
  unfold o64
  have h2 : b ≤ 2 ^ i * a + b := Nat.le_add_left _ _
  have h1 : 2 ^ i * a ≤ 2 ^ i * a + b := Nat.le_add_right _ _
  rw [Nat.mod_eq_of_lt (by omega), Nat.mod_eq_of_lt (by omega), Nat.two_pow_add_eq_or_of_lt hb]
theorem o64_comm (a b : Nat) : o64 a b = o64 b a := by unfold o64; rw [Nat.or_comm]
theorem half_limb (x y : Nat) (hx : x < 18446744073709551616) (hy : y < 18446744073709551616) : o64 (r64 x 1) (l64 y 63) = x / 2 + 9223372036854775808 * (y % 2) := by
  have e1 : r64 x 1 = x / 2 := rfl
  have e2 : l64 y 63 = 2 ^ 63 * (y % 2) := by
    show y * 9223372036854775808 % 18446744073709551616 = 9223372036854775808 * (y % 2)
    omega
  rw [e1, e2, o64_comm, or_add 63 _ _ (by omega) (by omega)]
  omega
theorem and_one (a : Nat) : a64 a 1 = a % 2 := by
  unfold a64
  rw [show 1 % 18446744073709551616 = 2 ^ 1 - 1 from rfl, Nat.and_two_pow_sub_one_eq_mod]
  omega

theorem run_skip {f : FuncId} {n : Nat} {Q : V → Heap → Prop} {k : List TI} {st : St} (h : Run Tryd.prog G f n Q (k, st)) : Run Tryd.prog G f n Q (.c .skip :: k, st) := run_step (p' := (k, st)) rfl h

/-- The loop that shifts by one, and what stands behind it. -/
theorem half_tail (D c H : Nat) (ci : Int) (hci : ci = (c : Int)) (hD : D < 115792089237316195423570985008687907853269984665640564039457584007913129639936) (hc : c ≤ 1) (hH : 2 * H = D + 115792089237316195423570985008687907853269984665640564039457584007913129639936 * c) (x : V) (h0 : Option Blk) (hx : H < 115792089237316195423570985008687907853269984665640564039457584007913129639936) :
    Run Tryd.prog G 24 0 (fun v h' => v = lw H ∧ h' = []) ([.c (.seq (.seq (.reg v24_5) (.block 0 v24_11)) (.seq (.reg v24_12) (.seq (.reg v24_13) .ret)))],
      ⟨[x, .ptr 0 0, .ptr 1 0, .ptr 2 0, .int .u64 ci] ++ List.replicate 36 .unk, [h0, some ⟨.rw, lc 0⟩, some ⟨.rw, lc D⟩]⟩) := by
  subst hci
  obtain ⟨d0, d1, d2, d3, hd0, hd1, hd2, hd3, ed, eD⟩ := limbs' D
  have eD := eD hD
  rw [ed]
  refine run_driveS 80 ?_
  simp only [go_sem, Nat.reduceAdd, Nat.reduceSub, Nat.reduceLeDiff, Nat.reduceMul, Nat.reduceLT, Nat.reduceEqDiff, Int.reduceLT, Int.reduceLE, Int.reduceAdd, Int.reduceSub, Int.reduceMul, Int.reduceToNat, reduceIte, reduceCtorEq, Nat.reduceBEq, v24_5, v24_11]
  obtain ⟨e0, f0, p0⟩ : ∃ e, e = d0 / 2 + 9223372036854775808 * (d1 % 2) ∧ o64 (r64 d0 1) (l64 d1 63) = e := ⟨_, rfl, half_limb d0 d1 hd0 hd1⟩
  refine run_loop_eq v24_10.eq_1 ?_
  refine run_driveS 80 ?_
  simp only [go_sem, Nat.reduceAdd, Nat.reduceSub, Nat.reduceLeDiff, Nat.reduceMul, Nat.reduceLT, Nat.reduceEqDiff, Int.reduceLT, Int.reduceLE, Int.reduceAdd, Int.reduceSub, Int.reduceMul, Int.reduceToNat, reduceIte, reduceCtorEq, Nat.reduceBEq, v24_6, v24_8]
  refine run_drw (by kernel_rfl) ?_
  refine drun_drive 40 (p := (_, _)) ?_
  simp only [go_sem, Nat.reduceAdd, Nat.reduceSub, Nat.reduceLeDiff, Nat.reduceMul, Nat.reduceLT, Nat.reduceEqDiff, Int.reduceLT, Int.reduceLE, Int.reduceAdd, Int.reduceSub, Int.reduceMul, Int.reduceToNat, reduceIte, reduceCtorEq, Nat.reduceBEq, v24_7, p0]
  refine drun_end ?_
  refine run_driveS 80 ?_
  simp only [go_sem, Nat.reduceAdd, Nat.reduceSub, Nat.reduceLeDiff, Nat.reduceMul, Nat.reduceLT, Nat.reduceEqDiff, Int.reduceLT, Int.reduceLE, Int.reduceAdd, Int.reduceSub, Int.reduceMul, Int.reduceToNat, reduceIte, reduceCtorEq, Nat.reduceBEq, v24_9]
  obtain ⟨e1, f1, p1⟩ : ∃ e, e = d1 / 2 + 9223372036854775808 * (d2 % 2) ∧ o64 (r64 d1 1) (l64 d2 63) = e := ⟨_, rfl, half_limb d1 d2 hd1 hd2⟩
  refine run_loop_eq v24_10.eq_1 ?_
  refine run_driveS 80 ?_
  simp only [go_sem, Nat.reduceAdd, Nat.reduceSub, Nat.reduceLeDiff, Nat.reduceMul, Nat.reduceLT, Nat.reduceEqDiff, Int.reduceLT, Int.reduceLE, Int.reduceAdd, Int.reduceSub, Int.reduceMul, Int.reduceToNat, reduceIte, reduceCtorEq, Nat.reduceBEq, v24_6, v24_8]
  refine run_drw (by kernel_rfl) ?_
  refine drun_drive 40 (p := (_, _)) ?_
  simp only [go_sem, Nat.reduceAdd, Nat.reduceSub, Nat.reduceLeDiff, Nat.reduceMul, Nat.reduceLT, Nat.reduceEqDiff, Int.reduceLT, Int.reduceLE, Int.reduceAdd, Int.reduceSub, Int.reduceMul, Int.reduceToNat, reduceIte, reduceCtorEq, Nat.reduceBEq, v24_7, p1]
  refine drun_end ?_
  refine run_driveS 80 ?_
  simp only [go_sem, Nat.reduceAdd, Nat.reduceSub, Nat.reduceLeDiff, Nat.reduceMul, Nat.reduceLT, Nat.reduceEqDiff, Int.reduceLT, Int.reduceLE, Int.reduceAdd, Int.reduceSub, Int.reduceMul, Int.reduceToNat, reduceIte, reduceCtorEq, Nat.reduceBEq, v24_9]
  obtain ⟨e2, f2, p2⟩ : ∃ e, e = d2 / 2 + 9223372036854775808 * (d3 % 2) ∧ o64 (r64 d2 1) (l64 d3 63) = e := ⟨_, rfl, half_limb d2 d3 hd2 hd3⟩
  refine run_loop_eq v24_10.eq_1 ?_
  refine run_driveS 80 ?_
  simp only [go_sem, Nat.reduceAdd, Nat.reduceSub, Nat.reduceLeDiff, Nat.reduceMul, Nat.reduceLT, Nat.reduceEqDiff, Int.reduceLT, Int.reduceLE, Int.reduceAdd, Int.reduceSub, Int.reduceMul, Int.reduceToNat, reduceIte, reduceCtorEq, Nat.reduceBEq, v24_6, v24_8]
  refine run_drw (by kernel_rfl) ?_
  refine drun_drive 40 (p := (_, _)) ?_
  simp only [go_sem, Nat.reduceAdd, Nat.reduceSub, Nat.reduceLeDiff, Nat.reduceMul, Nat.reduceLT, Nat.reduceEqDiff, Int.reduceLT, Int.reduceLE, Int.reduceAdd, Int.reduceSub, Int.reduceMul, Int.reduceToNat, reduceIte, reduceCtorEq, Nat.reduceBEq, v24_7, p2]
  refine drun_end ?_
  refine run_driveS 80 ?_
  simp only [go_sem, Nat.reduceAdd, Nat.reduceSub, Nat.reduceLeDiff, Nat.reduceMul, Nat.reduceLT, Nat.reduceEqDiff, Int.reduceLT, Int.reduceLE, Int.reduceAdd, Int.reduceSub, Int.reduceMul, Int.reduceToNat, reduceIte, reduceCtorEq, Nat.reduceBEq, v24_9]
  obtain ⟨e3, f3, p3⟩ : ∃ e, e = d3 / 2 + 9223372036854775808 * (c % 2) ∧ o64 (r64 d3 1) (l64 c 63) = e := ⟨_, rfl, half_limb d3 c hd3 (by omega)⟩
  refine run_loop_eq v24_10.eq_1 ?_
  refine run_driveS 80 ?_
  simp only [go_sem, Nat.reduceAdd, Nat.reduceSub, Nat.reduceLeDiff, Nat.reduceMul, Nat.reduceLT, Nat.reduceEqDiff, Int.reduceLT, Int.reduceLE, Int.reduceAdd, Int.reduceSub, Int.reduceMul, Int.reduceToNat, reduceIte, reduceCtorEq, Nat.reduceBEq, v24_6]
  refine run_exit rfl ?_
  refine run_driveS 80 ?_
  simp only [go_sem, Nat.reduceAdd, Nat.reduceSub, Nat.reduceLeDiff, Nat.reduceMul, Nat.reduceLT, Nat.reduceEqDiff, Int.reduceLT, Int.reduceLE, Int.reduceAdd, Int.reduceSub, Int.reduceMul, Int.reduceToNat, reduceIte, reduceCtorEq, Nat.reduceBEq, v24_12, v24_13, p3]
  refine run_ret_drop Tryd.func24 res24 [] (lw H) [] rfl (by simp) trivial (by simp [uniq]) ?_ ⟨rfl, rfl⟩
  have e : H = e0 + 18446744073709551616 * e1 + 340282366920938463463374607431768211456 * e2 + 6277101735386680763835789423207666416102355444464034512896 * e3 := by omega
  rw [e, lw_of (by omega) (by omega) (by omega) (by omega)]
  simp only [go_sem, Nat.reduceAdd, Nat.reduceSub, Nat.reduceLeDiff, Nat.reduceMul, Nat.reduceLT, Nat.reduceEqDiff, Int.reduceLT, Int.reduceLE, Int.reduceAdd, Int.reduceSub, Int.reduceMul, Int.reduceToNat, reduceIte, reduceCtorEq, Nat.reduceBEq, r24, ren, rens]

theorem ref_half (A : Nat) (hA : A < ell) {h : Heap} {R : V → Heap → Prop} (hQ : ∀ H, H < ell → (A % 2 = 0 → 2 * H = A) → (A % 2 = 1 → 2 * H = A + ell) → R (lw H) h) : VCall Tryd.prog G 24 [lw A] h R := by
  have hl := ell_lt
  have h2 := ell_two
  have hodd : ell % 2 = 1 := by decide
  have hp0 : List.take 1 (lc A) = [.int .u64 ((A % 18446744073709551616 : Nat) : Int)] := rfl
  have hp : a64 (A % 18446744073709551616) 1 = A % 2 := by rw [and_one]; omega
  by_cases hb : A % 2 = 0
  · have hd : decide (A % 2 = 1) = false := decide_eq_false (by omega)
    refine vcall_plain (Q := fun v => v = lw (A / 2)) ?_ (fun g => by simp only [rens, lw_plain]) (fun v g hv => by subst hv; exact lw_plain _ g) (fun v hv => by subst hv; exact hQ (A / 2) (by omega) (fun _ => by omega) (fun _ => by omega))
    refine vcall_body Tryd.func24 nm24 code24 nt24 ?_
    refine run_driveS 80 ?_
    simp only [go_sem, Nat.reduceAdd, Nat.reduceSub, Nat.reduceLeDiff, Nat.reduceMul, Nat.reduceLT, Nat.reduceEqDiff, Int.reduceLT, Int.reduceLE, Int.reduceAdd, Int.reduceSub, Int.reduceMul, Int.reduceToNat, reduceIte, reduceCtorEq, Nat.reduceBEq, v24, v24_0, v24_1, v24_2, v24_3, hp0, hp]
    refine run_cond_f (by simp only [go_sem, Nat.reduceAdd, Nat.reduceSub, Nat.reduceLeDiff, Nat.reduceMul, Nat.reduceLT, Nat.reduceEqDiff, Int.reduceLT, Int.reduceLE, Int.reduceAdd, Int.reduceSub, Int.reduceMul, Int.reduceToNat, reduceIte, reduceCtorEq, Nat.reduceBEq, hd]) (run_skip ?_)
    refine run_rename [0, 1, 2] rfl (by simp) ?_ ?_ ?_ (half_tail A 0 (A / 2) (nl 0) rfl (by omega) (by omega) (by omega) (lw A) (some ⟨.rw, lc A⟩) (by omega))
    · simp only [go_sem, Nat.reduceAdd, Nat.reduceSub, Nat.reduceLeDiff, Nat.reduceMul, Nat.reduceLT, Nat.reduceEqDiff, Int.reduceLT, Int.reduceLE, Int.reduceAdd, Int.reduceSub, Int.reduceMul, Int.reduceToNat, reduceIte, reduceCtorEq, Nat.reduceBEq, hfit, lc_fit, scs_fit, fit, ren, gmap, lw_plain, true_or, or_true, lc_zero]
    · simp [uniq, wrB]
    · simp only [go_sem, Nat.reduceAdd, Nat.reduceSub, Nat.reduceLeDiff, Nat.reduceMul, Nat.reduceLT, Nat.reduceEqDiff, Int.reduceLT, Int.reduceLE, Int.reduceAdd, Int.reduceSub, Int.reduceMul, Int.reduceToNat, reduceIte, reduceCtorEq, Nat.reduceBEq, hfit, lc_fit, scs_fit, fit, ren, gmap, lw_plain, true_or, or_true]
  · have hd : decide (A % 2 = 1) = true := decide_eq_true (by omega)
    refine vcall_plain (Q := fun v => v = lw ((A + ell) / 2)) ?_ (fun g => by simp only [rens, lw_plain]) (fun v g hv => by subst hv; exact lw_plain _ g) (fun v hv => by subst hv; exact hQ ((A + ell) / 2) (by omega) (fun _ => by omega) (fun _ => by omega))
    refine vcall_body Tryd.func24 nm24 code24 nt24 ?_
    refine run_driveS 80 ?_
    simp only [go_sem, Nat.reduceAdd, Nat.reduceSub, Nat.reduceLeDiff, Nat.reduceMul, Nat.reduceLT, Nat.reduceEqDiff, Int.reduceLT, Int.reduceLE, Int.reduceAdd, Int.reduceSub, Int.reduceMul, Int.reduceToNat, reduceIte, reduceCtorEq, Nat.reduceBEq, v24, v24_0, v24_1, v24_2, v24_3, hp0, hp]
    refine run_cond_t (by simp only [go_sem, Nat.reduceAdd, Nat.reduceSub, Nat.reduceLeDiff, Nat.reduceMul, Nat.reduceLT, Nat.reduceEqDiff, Int.reduceLT, Int.reduceLE, Int.reduceAdd, Int.reduceSub, Int.reduceMul, Int.reduceToNat, reduceIte, reduceCtorEq, Nat.reduceBEq, hd]) ?_
    refine run_driveS 80 ?_
    simp only [go_sem, Nat.reduceAdd, Nat.reduceSub, Nat.reduceLeDiff, Nat.reduceMul, Nat.reduceLT, Nat.reduceEqDiff, Int.reduceLT, Int.reduceLE, Int.reduceAdd, Int.reduceSub, Int.reduceMul, Int.reduceToNat, reduceIte, reduceCtorEq, Nat.reduceBEq]
    refine run_drw (by kernel_rfl) ?_
    refine drun_drive 40 (p := (_, _)) ?_
    simp only [go_sem, Nat.reduceAdd, Nat.reduceSub, Nat.reduceLeDiff, Nat.reduceMul, Nat.reduceLT, Nat.reduceEqDiff, Int.reduceLT, Int.reduceLE, Int.reduceAdd, Int.reduceSub, Int.reduceMul, Int.reduceToNat, reduceIte, reduceCtorEq, Nat.reduceBEq, v24_4]
    refine drun_call' ?_
    simp only [go_sem, Nat.reduceAdd, Nat.reduceSub, Nat.reduceLeDiff, Nat.reduceMul, Nat.reduceLT, Nat.reduceEqDiff, Int.reduceLT, Int.reduceLE, Int.reduceAdd, Int.reduceSub, Int.reduceMul, Int.reduceToNat, reduceIte, reduceCtorEq, Nat.reduceBEq, calV]
    refine ref_l ?_
    refine drun_drive 40 (p := (_, _)) ?_
    simp only [go_sem, Nat.reduceAdd, Nat.reduceSub, Nat.reduceLeDiff, Nat.reduceMul, Nat.reduceLT, Nat.reduceEqDiff, Int.reduceLT, Int.reduceLE, Int.reduceAdd, Int.reduceSub, Int.reduceMul, Int.reduceToNat, reduceIte, reduceCtorEq, Nat.reduceBEq]
    refine drun_call' ?_
    simp only [go_sem, Nat.reduceAdd, Nat.reduceSub, Nat.reduceLeDiff, Nat.reduceMul, Nat.reduceLT, Nat.reduceEqDiff, Int.reduceLT, Int.reduceLE, Int.reduceAdd, Int.reduceSub, Int.reduceMul, Int.reduceToNat, reduceIte, reduceCtorEq, Nat.reduceBEq, calV]
    refine ref_plus A ell (by omega) hl fun D b hD hb he => ?_
    refine drun_drive 40 (p := (_, _)) ?_
    simp only [go_sem, Nat.reduceAdd, Nat.reduceSub, Nat.reduceLeDiff, Nat.reduceMul, Nat.reduceLT, Nat.reduceEqDiff, Int.reduceLT, Int.reduceLE, Int.reduceAdd, Int.reduceSub, Int.reduceMul, Int.reduceToNat, reduceIte, reduceCtorEq, Nat.reduceBEq]
    refine drun_end ?_
    refine run_rename [0, 1, 2] rfl (by simp) ?_ ?_ ?_ (half_tail D b ((A + ell) / 2) b rfl hD hb (by omega) (lw A) (some ⟨.rw, lc A⟩) (by omega))
    · simp only [go_sem, Nat.reduceAdd, Nat.reduceSub, Nat.reduceLeDiff, Nat.reduceMul, Nat.reduceLT, Nat.reduceEqDiff, Int.reduceLT, Int.reduceLE, Int.reduceAdd, Int.reduceSub, Int.reduceMul, Int.reduceToNat, reduceIte, reduceCtorEq, Nat.reduceBEq, hfit, lc_fit, scs_fit, fit, ren, gmap, lw_plain, true_or, or_true, lc_zero]
    · simp [uniq, wrB]
    · simp only [go_sem, Nat.reduceAdd, Nat.reduceSub, Nat.reduceLeDiff, Nat.reduceMul, Nat.reduceLT, Nat.reduceEqDiff, Int.reduceLT, Int.reduceLE, Int.reduceAdd, Int.reduceSub, Int.reduceMul, Int.reduceToNat, reduceIte, reduceCtorEq, Nat.reduceBEq, hfit, lc_fit, scs_fit, fit, ren, gmap, lw_plain, true_or, or_true]
end Go.Vs.Tryd
