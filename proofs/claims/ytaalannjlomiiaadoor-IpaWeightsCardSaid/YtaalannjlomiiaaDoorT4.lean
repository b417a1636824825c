/- T4: what the functions of the program answer, over the machine of plain values. -/
import Derived.Test.YtaalannjlomiiaaDoorT1
set_option linter.unusedVariables false
set_option linter.unusedSimpArgs false
namespace Go.Vs.Tryd
open Go.Proofs
variable {G : Nat → List V}
set_option linter.unusedSimpArgs false
attribute [local go_sem] drive stepV exo expo evs fillV isNil nilKind eqV eqL optA optM sliceAtV ev kn V.known V.one ldc stc splice cellsOf asK asN asB asS asG asT appV srcV lenV setd wantV exitV rvs rv one List.length_cons List.length_nil List.cons_append List.nil_append List.append_nil List.replicate List.getD_cons_zero List.getD_cons_succ List.set_cons_zero List.set_cons_succ List.getElem?_cons_zero List.getElem?_cons_succ List.getElem?_nil List.take_succ_cons List.take_zero List.take_nil List.drop_succ_cons List.drop_zero List.drop_nil List.all_cons List.all_nil List.any_cons List.any_nil Bool.and_true Bool.true_and Bool.and_self Option.map_some Option.map_none Option.bind_some Option.some.injEq Nat.add_zero Nat.zero_add Int.toNat_zero Int.toNat_one Int.zero_add Int.add_zero if_true if_false ite_true ite_false and_true true_and and_self ne_eq not_false_eq_true not_true_eq_false decide_true decide_false Bool.false_eq_true Bool.not_true Bool.not_false beq_self_eq_true BEq.rfl Bool.not_eq_true Nat.le_refl Int.le_refl Nat.zero_le List.foldl List.map_cons List.map_nil Prod.mk.injEq Int.cast_ofNat_Int Int.zero_le_ofNat b_add_cc b_add_cl b_add_lc b_mul_cc b_mul_cl b_mul_lc b_sub_cc b_sub_cl b_sub_lc b_and_cc b_and_cl b_and_lc b_or_cc b_or_cl b_or_lc b_xor_cc b_xor_cl b_xor_lc b_andNot_cc b_andNot_cl b_andNot_lc b_shr_cc b_shr_cl b_shr_lc b_shl_cc b_shl_cl b_shl_lc b_lss b_leq b_gtr b_geq b_add_i b_sub_i b_mul_i beq_cc beq_cl beq_lc beq_ll b_quo_i b_rem_i neg_u64 wrap_i64 driveD stepD idsAt idOf maskH_nil restore_nil restore_mask List.filterMap_nil List.filterMap_cons VOp.looks VOp.makes exA
set_option maxRecDepth 100000

theorem limbs4 (D : Nat) (hD : D < 115792089237316195423570985008687907853269984665640564039457584007913129639936) : ∃ d0 d1 d2 d3 : Nat, d0 < 18446744073709551616 ∧ d1 < 18446744073709551616 ∧ d2 < 18446744073709551616 ∧ d3 < 18446744073709551616 ∧ lw D = .agg [.int .u64 (d0 : Int), .int .u64 (d1 : Int), .int .u64 (d2 : Int), .int .u64 (d3 : Int)] ∧ D = (d0 + 18446744073709551616 * d1 + 340282366920938463463374607431768211456 * d2 + 6277101735386680763835789423207666416102355444464034512896 * d3) := by
  obtain ⟨d0, d1, d2, d3, h0, h1, h2, h3, e, E⟩ := limbs D
  exact ⟨d0, d1, d2, d3, h0, h1, h2, h3, e, E hD⟩

theorem minus_c (a0 a1 a2 a3 b0 b1 b2 b3 : Nat) (ha0 : a0 < 18446744073709551616) (ha1 : a1 < 18446744073709551616) (ha2 : a2 < 18446744073709551616) (ha3 : a3 < 18446744073709551616) (hb0 : b0 < 18446744073709551616) (hb1 : b1 < 18446744073709551616) (hb2 : b2 < 18446744073709551616) (hb3 : b3 < 18446744073709551616) {h : Heap} {R : V → Heap → Prop}
    (hQ : ∀ d0 d1 d2 d3 k : Nat, d0 < 18446744073709551616 → d1 < 18446744073709551616 → d2 < 18446744073709551616 → d3 < 18446744073709551616 → k ≤ 1 → (a0 + 18446744073709551616 * a1 + 340282366920938463463374607431768211456 * a2 + 6277101735386680763835789423207666416102355444464034512896 * a3) + 115792089237316195423570985008687907853269984665640564039457584007913129639936 * k = (b0 + 18446744073709551616 * b1 + 340282366920938463463374607431768211456 * b2 + 6277101735386680763835789423207666416102355444464034512896 * b3) + (d0 + 18446744073709551616 * d1 + 340282366920938463463374607431768211456 * d2 + 6277101735386680763835789423207666416102355444464034512896 * d3) → R (.tup [.agg [.int .u64 (d0 : Int), .int .u64 (d1 : Int), .int .u64 (d2 : Int), .int .u64 (d3 : Int)], .int .u64 (k : Int)]) h) :
    VCall Tryd.prog G 33 [.agg [.int .u64 (a0 : Int), .int .u64 (a1 : Int), .int .u64 (a2 : Int), .int .u64 (a3 : Int)], .agg [.int .u64 (b0 : Int), .int .u64 (b1 : Int), .int .u64 (b2 : Int), .int .u64 (b3 : Int)]] h R := by
  rw [← lw_of ha0 ha1 ha2 ha3, ← lw_of hb0 hb1 hb2 hb3]
  refine minus' _ _ (by omega) (by omega) fun D k hD hk e => ?_
  obtain ⟨d0, d1, d2, d3, h0, h1, h2, h3, ed, eD⟩ := limbs4 D hD
  rw [ed]
  exact hQ d0 d1 d2 d3 k h0 h1 h2 h3 hk (by rw [← eD]; exact e)
theorem plus_c (a0 a1 a2 a3 b0 b1 b2 b3 : Nat) (ha0 : a0 < 18446744073709551616) (ha1 : a1 < 18446744073709551616) (ha2 : a2 < 18446744073709551616) (ha3 : a3 < 18446744073709551616) (hb0 : b0 < 18446744073709551616) (hb1 : b1 < 18446744073709551616) (hb2 : b2 < 18446744073709551616) (hb3 : b3 < 18446744073709551616) {h : Heap} {R : V → Heap → Prop}
    (hQ : ∀ d0 d1 d2 d3 k : Nat, d0 < 18446744073709551616 → d1 < 18446744073709551616 → d2 < 18446744073709551616 → d3 < 18446744073709551616 → k ≤ 1 → (a0 + 18446744073709551616 * a1 + 340282366920938463463374607431768211456 * a2 + 6277101735386680763835789423207666416102355444464034512896 * a3) + (b0 + 18446744073709551616 * b1 + 340282366920938463463374607431768211456 * b2 + 6277101735386680763835789423207666416102355444464034512896 * b3) = 115792089237316195423570985008687907853269984665640564039457584007913129639936 * k + (d0 + 18446744073709551616 * d1 + 340282366920938463463374607431768211456 * d2 + 6277101735386680763835789423207666416102355444464034512896 * d3) → R (.tup [.agg [.int .u64 (d0 : Int), .int .u64 (d1 : Int), .int .u64 (d2 : Int), .int .u64 (d3 : Int)], .int .u64 (k : Int)]) h) :
    VCall Tryd.prog G 34 [.agg [.int .u64 (a0 : Int), .int .u64 (a1 : Int), .int .u64 (a2 : Int), .int .u64 (a3 : Int)], .agg [.int .u64 (b0 : Int), .int .u64 (b1 : Int), .int .u64 (b2 : Int), .int .u64 (b3 : Int)]] h R := by
  rw [← lw_of ha0 ha1 ha2 ha3, ← lw_of hb0 hb1 hb2 hb3]
  refine plus' _ _ (by omega) (by omega) fun D k hD hk e => ?_
  obtain ⟨d0, d1, d2, d3, h0, h1, h2, h3, ed, eD⟩ := limbs4 D hD
  rw [ed]
  exact hQ d0 d1 d2 d3 k h0 h1 h2 h3 hk (by rw [← eD]; exact e)
theorem choose_c (a0 a1 a2 a3 b0 b1 b2 b3 : Nat) (ha0 : a0 < 18446744073709551616) (ha1 : a1 < 18446744073709551616) (ha2 : a2 < 18446744073709551616) (ha3 : a3 < 18446744073709551616) (hb0 : b0 < 18446744073709551616) (hb1 : b1 < 18446744073709551616) (hb2 : b2 < 18446744073709551616) (hb3 : b3 < 18446744073709551616) (k : Nat) (hk : k ≤ 1) {h : Heap} {R : V → Heap → Prop}
    (hQ : ∀ d0 d1 d2 d3 : Nat, d0 < 18446744073709551616 → d1 < 18446744073709551616 → d2 < 18446744073709551616 → d3 < 18446744073709551616 → (k = 1 → (d0 + 18446744073709551616 * d1 + 340282366920938463463374607431768211456 * d2 + 6277101735386680763835789423207666416102355444464034512896 * d3) = (a0 + 18446744073709551616 * a1 + 340282366920938463463374607431768211456 * a2 + 6277101735386680763835789423207666416102355444464034512896 * a3)) → (k = 0 → (d0 + 18446744073709551616 * d1 + 340282366920938463463374607431768211456 * d2 + 6277101735386680763835789423207666416102355444464034512896 * d3) = (b0 + 18446744073709551616 * b1 + 340282366920938463463374607431768211456 * b2 + 6277101735386680763835789423207666416102355444464034512896 * b3)) → R (.agg [.int .u64 (d0 : Int), .int .u64 (d1 : Int), .int .u64 (d2 : Int), .int .u64 (d3 : Int)]) h) :
    VCall Tryd.prog G 36 [.int .u64 ((s64 0 k : Nat) : Int), .agg [.int .u64 (a0 : Int), .int .u64 (a1 : Int), .int .u64 (a2 : Int), .int .u64 (a3 : Int)], .agg [.int .u64 (b0 : Int), .int .u64 (b1 : Int), .int .u64 (b2 : Int), .int .u64 (b3 : Int)]] h R := by
  rw [← lw_of ha0 ha1 ha2 ha3, ← lw_of hb0 hb1 hb2 hb3]
  refine choose' (decide (k = 1)) _ _ _ (mask_of hk) ?_
  have : k = 0 ∨ k = 1 := by omega
  rcases this with rfl | rfl
  · rw [if_neg (by decide), lw_of hb0 hb1 hb2 hb3]
    exact hQ _ _ _ _ hb0 hb1 hb2 hb3 (fun e => by cases e) (fun _ => rfl)
  · rw [if_pos (by decide), lw_of ha0 ha1 ha2 ha3]
    exact hQ _ _ _ _ ha0 ha1 ha2 ha3 (fun _ => rfl) (fun e => by cases e)
theorem lower' (hG : G 0 = tbl) (A : Nat) (hA : A < 115792089237316195423570985008687907853269984665640564039457584007913129639936) {h : Heap} {R : V → Heap → Prop} (hQ : R (lw (if ell ≤ A then A - ell else A)) h) : VCall Tryd.prog G 35 [lw A] h R := by
  refine vcall_plain (Q := fun v => v = lw (if ell ≤ A then A - ell else A)) (lower hG A hA _ ⟨rfl, rfl⟩) (fun g => by simp only [rens, ren, lw, lc, u]) ?_ ?_
  · rintro v g rfl; exact lw_plain _ g
  · rintro v rfl; exact hQ
theorem lower_c (hG : G 0 = tbl) (a0 a1 a2 a3 : Nat) (ha0 : a0 < 18446744073709551616) (ha1 : a1 < 18446744073709551616) (ha2 : a2 < 18446744073709551616) (ha3 : a3 < 18446744073709551616) {h : Heap} {R : V → Heap → Prop}
    (hQ : ∀ d0 d1 d2 d3 : Nat, d0 < 18446744073709551616 → d1 < 18446744073709551616 → d2 < 18446744073709551616 → d3 < 18446744073709551616 → (d0 + 18446744073709551616 * d1 + 340282366920938463463374607431768211456 * d2 + 6277101735386680763835789423207666416102355444464034512896 * d3) = (if ell ≤ (a0 + 18446744073709551616 * a1 + 340282366920938463463374607431768211456 * a2 + 6277101735386680763835789423207666416102355444464034512896 * a3) then (a0 + 18446744073709551616 * a1 + 340282366920938463463374607431768211456 * a2 + 6277101735386680763835789423207666416102355444464034512896 * a3) - ell else (a0 + 18446744073709551616 * a1 + 340282366920938463463374607431768211456 * a2 + 6277101735386680763835789423207666416102355444464034512896 * a3)) → R (.agg [.int .u64 (d0 : Int), .int .u64 (d1 : Int), .int .u64 (d2 : Int), .int .u64 (d3 : Int)]) h) :
    VCall Tryd.prog G 35 [.agg [.int .u64 (a0 : Int), .int .u64 (a1 : Int), .int .u64 (a2 : Int), .int .u64 (a3 : Int)]] h R := by
  rw [← lw_of ha0 ha1 ha2 ha3]
  refine lower' hG _ (by omega) ?_
  obtain ⟨d0, d1, d2, d3, h0, h1, h2, h3, ed, eD⟩ := limbs4 (if ell ≤ (a0 + 18446744073709551616 * a1 + 340282366920938463463374607431768211456 * a2 + 6277101735386680763835789423207666416102355444464034512896 * a3) then (a0 + 18446744073709551616 * a1 + 340282366920938463463374607431768211456 * a2 + 6277101735386680763835789423207666416102355444464034512896 * a3) - ell else (a0 + 18446744073709551616 * a1 + 340282366920938463463374607431768211456 * a2 + 6277101735386680763835789423207666416102355444464034512896 * a3)) (by split <;> omega)
  rw [ed]
  exact hQ d0 d1 d2 d3 h0 h1 h2 h3 eD.symm

theorem mul64_c (x y : Nat) (hx : x < 18446744073709551616) (hy : y < 18446744073709551616) (yi : Int) (hyi : yi = (y : Int)) {h : Heap} {R : V → Heap → Prop} (hQ : ∀ hi lo : Nat, hi < 18446744073709551616 → lo < 18446744073709551616 → x * y = 18446744073709551616 * hi + lo → R (.tup [.int .u64 (hi : Int), .int .u64 (lo : Int)]) h) : VCall Tryd.prog G 31 [.int .u64 (x : Int), .int .u64 yi] h R := by
  subst hyi; exact mul64' x y hx hy hQ

set_option maxHeartbeats 2000000 in
theorem least (hG : G 0 = tbl) (A : Nat) (hA : A < 115792089237316195423570985008687907853269984665640564039457584007913129639936) (Q : V → Heap → Prop) (hQ : Q (lw (A % ell)) []) : VCall Tryd.prog G 21 [lw A] [] Q := by
  refine vcall_body Tryd.func21 nm21 code21 nt21 ?_
  obtain ⟨a0, a1, a2, a3, ha0, ha1, ha2, ha3, ea, eA⟩ := limbs4 A hA
  rw [ea]
  by_cases h3 : a3 < 1152921504606846976
  · have hd : decide ((a3 : Int) < nl 1152921504606846976) = true := decide_eq_true (by unfold nl; omega)
    refine run_drive 12 ?_
    simp only [go_sem, Nat.reduceAdd, Nat.reduceSub, Nat.reduceLeDiff, Nat.reduceMul, Nat.reduceLT, Nat.reduceEqDiff, Int.reduceLT, Int.reduceLE, Int.reduceAdd, Int.reduceSub, Int.reduceMul, Int.reduceToNat, reduceIte, reduceCtorEq, Nat.reduceBEq, v21, v21_0, v21_1, hd]
    refine run_cond_t rfl ?_
    refine run_drive 60 ?_
    simp only [go_sem, Nat.reduceAdd, Nat.reduceSub, Nat.reduceLeDiff, Nat.reduceMul, Nat.reduceLT, Nat.reduceEqDiff, Int.reduceLT, Int.reduceLE, Int.reduceAdd, Int.reduceSub, Int.reduceMul, Int.reduceToNat, reduceIte, reduceCtorEq, Nat.reduceBEq, v21_2]
    refine run_ret_drop Tryd.func21 res21 [] (lw (A % ell)) [] rfl (by simp) trivial (by simp [uniq]) ?_ hQ
    have : A % ell = A := Nat.mod_eq_of_lt (by unfold ell; omega)
    rw [this, ea]
    simp only [go_sem, Nat.reduceAdd, Nat.reduceSub, Nat.reduceLeDiff, Nat.reduceMul, Nat.reduceLT, Nat.reduceEqDiff, Int.reduceLT, Int.reduceLE, Int.reduceAdd, Int.reduceSub, Int.reduceMul, Int.reduceToNat, reduceIte, reduceCtorEq, Nat.reduceBEq, r21, ren, rens]
  · have hd : decide ((a3 : Int) < nl 1152921504606846976) = false := decide_eq_false (by unfold nl; omega)
    refine run_drive 12 ?_
    simp only [go_sem, Nat.reduceAdd, Nat.reduceSub, Nat.reduceLeDiff, Nat.reduceMul, Nat.reduceLT, Nat.reduceEqDiff, Int.reduceLT, Int.reduceLE, Int.reduceAdd, Int.reduceSub, Int.reduceMul, Int.reduceToNat, reduceIte, reduceCtorEq, Nat.reduceBEq, v21, v21_0, v21_1, hd]
    refine run_cond_f rfl ?_
    refine run_drive 60 ?_
    simp only [go_sem, Nat.reduceAdd, Nat.reduceSub, Nat.reduceLeDiff, Nat.reduceMul, Nat.reduceLT, Nat.reduceEqDiff, Int.reduceLT, Int.reduceLE, Int.reduceAdd, Int.reduceSub, Int.reduceMul, Int.reduceToNat, reduceIte, reduceCtorEq, Nat.reduceBEq, v21_0, v21_1, v21_2, v21_3, v21_4, v21_5, v21_6, v21_7, v21_8, v21_9, v21_10, v21_11, v21_12, v21_13, v21_14, v21, hG, tbl]
    have hq : r64 a3 60 = a3 / 1152921504606846976 := rfl
    have hm : a64 a3 1152921504606846975 = a3 % 1152921504606846976 := a64_mask a3 60 (by decide) ha3 _ rfl
    rw [hq, hm]
    have hq15 : a3 / 1152921504606846976 ≤ 15 := by omega
    have hml : a3 % 1152921504606846976 < 1152921504606846976 := Nat.mod_lt _ (by decide)
    have hsplit : a3 = a3 % 1152921504606846976 + 1152921504606846976 * (a3 / 1152921504606846976) := (Nat.mod_add_div _ _).symm
    generalize a3 / 1152921504606846976 = q at *
    generalize a3 % 1152921504606846976 = l3 at *
    refine run_call' rfl ?_
    simp only [go_sem, Nat.reduceAdd, Nat.reduceSub, Nat.reduceLeDiff, Nat.reduceMul, Nat.reduceLT, Nat.reduceEqDiff, Int.reduceLT, Int.reduceLE, Int.reduceAdd, Int.reduceSub, Int.reduceMul, Int.reduceToNat, reduceIte, reduceCtorEq, Nat.reduceBEq, calV]
    refine mul64_c q 6346243789798364141 (by omega) (by decide) _ rfl ?_
    intro p1 p0 hp1 hp0 ep
    refine run_drive 60 ?_
    simp only [go_sem, Nat.reduceAdd, Nat.reduceSub, Nat.reduceLeDiff, Nat.reduceMul, Nat.reduceLT, Nat.reduceEqDiff, Int.reduceLT, Int.reduceLE, Int.reduceAdd, Int.reduceSub, Int.reduceMul, Int.reduceToNat, reduceIte, reduceCtorEq, Nat.reduceBEq, tbl, hG]
    refine run_call' rfl ?_
    simp only [go_sem, Nat.reduceAdd, Nat.reduceSub, Nat.reduceLeDiff, Nat.reduceMul, Nat.reduceLT, Nat.reduceEqDiff, Int.reduceLT, Int.reduceLE, Int.reduceAdd, Int.reduceSub, Int.reduceMul, Int.reduceToNat, reduceIte, reduceCtorEq, Nat.reduceBEq, calV]
    refine mul64_c q 1503914060200516822 (by omega) (by decide) _ rfl ?_
    intro s1 s0 hs1 hs0 es
    refine run_drive 60 ?_
    simp only [go_sem, Nat.reduceAdd, Nat.reduceSub, Nat.reduceLeDiff, Nat.reduceMul, Nat.reduceLT, Nat.reduceEqDiff, Int.reduceLT, Int.reduceLE, Int.reduceAdd, Int.reduceSub, Int.reduceMul, Int.reduceToNat, reduceIte, reduceCtorEq, Nat.reduceBEq, tbl, hG]
    refine run_call' rfl ?_
    simp only [go_sem, Nat.reduceAdd, Nat.reduceSub, Nat.reduceLeDiff, Nat.reduceMul, Nat.reduceLT, Nat.reduceEqDiff, Int.reduceLT, Int.reduceLE, Int.reduceAdd, Int.reduceSub, Int.reduceMul, Int.reduceToNat, reduceIte, reduceCtorEq, Nat.reduceBEq, calV]
    refine add64 s0 p1 0 _ rfl (by decide) hs0 hp1 ?_
    intro t1 k1 ht1 hk1 et
    refine run_drive 60 ?_
    simp only [go_sem, Nat.reduceAdd, Nat.reduceSub, Nat.reduceLeDiff, Nat.reduceMul, Nat.reduceLT, Nat.reduceEqDiff, Int.reduceLT, Int.reduceLE, Int.reduceAdd, Int.reduceSub, Int.reduceMul, Int.reduceToNat, reduceIte, reduceCtorEq, Nat.reduceBEq, tbl, hG]
    have hw : w64 (s1 + k1) = s1 + k1 := Nat.mod_eq_of_lt (by omega)
    rw [hw]
    refine run_call' rfl ?_
    simp only [go_sem, Nat.reduceAdd, Nat.reduceSub, Nat.reduceLeDiff, Nat.reduceMul, Nat.reduceLT, Nat.reduceEqDiff, Int.reduceLT, Int.reduceLE, Int.reduceAdd, Int.reduceSub, Int.reduceMul, Int.reduceToNat, reduceIte, reduceCtorEq, Nat.reduceBEq, calV]
    refine minus_c a0 a1 a2 l3 p0 t1 (s1 + k1) 0 ha0 ha1 ha2 (by omega) hp0 ht1 (by omega) (by omega) ?_
    intro d0 d1 d2 d3 k hd0 hd1 hd2 hd3 hk ed
    refine run_drive 60 ?_
    simp only [go_sem, Nat.reduceAdd, Nat.reduceSub, Nat.reduceLeDiff, Nat.reduceMul, Nat.reduceLT, Nat.reduceEqDiff, Int.reduceLT, Int.reduceLE, Int.reduceAdd, Int.reduceSub, Int.reduceMul, Int.reduceToNat, reduceIte, reduceCtorEq, Nat.reduceBEq, tbl, hG]
    refine run_call' rfl ?_
    simp only [go_sem, Nat.reduceAdd, Nat.reduceSub, Nat.reduceLeDiff, Nat.reduceMul, Nat.reduceLT, Nat.reduceEqDiff, Int.reduceLT, Int.reduceLE, Int.reduceAdd, Int.reduceSub, Int.reduceMul, Int.reduceToNat, reduceIte, reduceCtorEq, Nat.reduceBEq, calV]
    refine plus_c d0 d1 d2 d3 6346243789798364141 1503914060200516822 0 1152921504606846976 hd0 hd1 hd2 hd3 (by decide) (by decide) (by decide) (by decide) ?_
    intro e0 e1 e2 e3 k' he0 he1 he2 he3 hk' ee
    refine run_drive 60 ?_
    simp only [go_sem, Nat.reduceAdd, Nat.reduceSub, Nat.reduceLeDiff, Nat.reduceMul, Nat.reduceLT, Nat.reduceEqDiff, Int.reduceLT, Int.reduceLE, Int.reduceAdd, Int.reduceSub, Int.reduceMul, Int.reduceToNat, reduceIte, reduceCtorEq, Nat.reduceBEq, tbl, hG]
    refine run_call' rfl ?_
    simp only [go_sem, Nat.reduceAdd, Nat.reduceSub, Nat.reduceLeDiff, Nat.reduceMul, Nat.reduceLT, Nat.reduceEqDiff, Int.reduceLT, Int.reduceLE, Int.reduceAdd, Int.reduceSub, Int.reduceMul, Int.reduceToNat, reduceIte, reduceCtorEq, Nat.reduceBEq, calV]
    refine choose_c e0 e1 e2 e3 d0 d1 d2 d3 he0 he1 he2 he3 hd0 hd1 hd2 hd3 k hk ?_
    intro f0 f1 f2 f3 hf0 hf1 hf2 hf3 hfe hfd
    refine run_drive 60 ?_
    simp only [go_sem, Nat.reduceAdd, Nat.reduceSub, Nat.reduceLeDiff, Nat.reduceMul, Nat.reduceLT, Nat.reduceEqDiff, Int.reduceLT, Int.reduceLE, Int.reduceAdd, Int.reduceSub, Int.reduceMul, Int.reduceToNat, reduceIte, reduceCtorEq, Nat.reduceBEq, tbl, hG]
    refine run_call' rfl ?_
    simp only [go_sem, Nat.reduceAdd, Nat.reduceSub, Nat.reduceLeDiff, Nat.reduceMul, Nat.reduceLT, Nat.reduceEqDiff, Int.reduceLT, Int.reduceLE, Int.reduceAdd, Int.reduceSub, Int.reduceMul, Int.reduceToNat, reduceIte, reduceCtorEq, Nat.reduceBEq, calV]
    refine lower_c hG f0 f1 f2 f3 hf0 hf1 hf2 hf3 ?_
    intro g0 g1 g2 g3 hg0 hg1 hg2 hg3 eg
    refine run_drive 60 ?_
    simp only [go_sem, Nat.reduceAdd, Nat.reduceSub, Nat.reduceLeDiff, Nat.reduceMul, Nat.reduceLT, Nat.reduceEqDiff, Int.reduceLT, Int.reduceLE, Int.reduceAdd, Int.reduceSub, Int.reduceMul, Int.reduceToNat, reduceIte, reduceCtorEq, Nat.reduceBEq, tbl, hG]
    refine run_ret_drop Tryd.func21 res21 [] (lw (A % ell)) [] rfl (by simp) trivial (by simp [uniq]) ?_ hQ
    have key : A % ell = (g0 + 18446744073709551616 * g1 + 340282366920938463463374607431768211456 * g2 + 6277101735386680763835789423207666416102355444464034512896 * g3) := by
      have hf : (f0 + 18446744073709551616 * f1 + 340282366920938463463374607431768211456 * f2 + 6277101735386680763835789423207666416102355444464034512896 * f3) < 7237005577332262213973186563042994240857116359379907606001950938285454250989 ∧ (A = (f0 + 18446744073709551616 * f1 + 340282366920938463463374607431768211456 * f2 + 6277101735386680763835789423207666416102355444464034512896 * f3) + 7237005577332262213973186563042994240857116359379907606001950938285454250989 * q ∨ A + 7237005577332262213973186563042994240857116359379907606001950938285454250989 = (f0 + 18446744073709551616 * f1 + 340282366920938463463374607431768211456 * f2 + 6277101735386680763835789423207666416102355444464034512896 * f3) + 7237005577332262213973186563042994240857116359379907606001950938285454250989 * q) := by
        have : k = 0 ∨ k = 1 := by omega
        rcases this with rfl | rfl
        · have := hfd rfl
          omega
        · have := hfe rfl
          omega
      have hn : ¬ ell ≤ (f0 + 18446744073709551616 * f1 + 340282366920938463463374607431768211456 * f2 + 6277101735386680763835789423207666416102355444464034512896 * f3) := by unfold ell; omega
      rw [eg, if_neg hn]
      unfold ell
      omega
    rw [key, lw_of hg0 hg1 hg2 hg3]
    simp only [go_sem, Nat.reduceAdd, Nat.reduceSub, Nat.reduceLeDiff, Nat.reduceMul, Nat.reduceLT, Nat.reduceEqDiff, Int.reduceLT, Int.reduceLE, Int.reduceAdd, Int.reduceSub, Int.reduceMul, Int.reduceToNat, reduceIte, reduceCtorEq, Nat.reduceBEq, r21, ren, rens]
end Go.Vs.Tryd
