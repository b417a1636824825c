/- Text 4 of 6 of this claim: a machine of plain values beside the model, what the functions of the program and of the reference answer over it, and last the row and its card. -/
import Derived.Test.YthjchgboecjekaaDoorK3
import Derived.Test.YthjchgboecjekaaDoorK2
set_option linter.unusedVariables false
set_option linter.unusedSimpArgs false
namespace Go.Vs.Tryd
open Go.Proofs
variable {G : Nat → List V}
set_option linter.unusedSimpArgs false
attribute [local go_sem_proc] Nat.reduceAdd Nat.reduceSub Nat.reduceLeDiff Nat.reduceMul Nat.reduceLT Nat.reduceEqDiff Int.reduceLT Int.reduceLE Int.reduceAdd Int.reduceSub Int.reduceMul Int.reduceToNat reduceIte reduceCtorEq Nat.reduceBEq
attribute [local go_sem] Option.isSome_some Option.isSome_none Kind.m Kind.w Kind.g look_ro look_rw look_grow lenO drive stepV exo expo evs fillV isNil nilKind eqV eqL optA optM sliceAtV ev kn V.known V.one ldc stc splice cellsOf asK asN asB asS asG asT appV srcV lenV setd wantV exitV rvs rv one List.length_cons List.length_nil List.cons_append List.nil_append List.append_nil List.replicate List.getD_cons_zero List.getD_cons_succ List.set_cons_zero List.set_cons_succ List.getElem?_cons_zero List.getElem?_cons_succ List.getElem?_nil List.take_succ_cons List.take_zero List.take_nil List.drop_succ_cons List.drop_zero List.drop_nil List.all_cons List.all_nil List.any_cons List.any_nil Bool.and_true Bool.true_and Bool.and_self Option.map_some Option.map_none Option.bind_some Option.some.injEq Nat.add_zero Nat.zero_add Int.toNat_zero Int.toNat_one Int.zero_add Int.add_zero if_true if_false ite_true ite_false and_true true_and and_self ne_eq not_false_eq_true not_true_eq_false decide_true decide_false Bool.false_eq_true Bool.not_true Bool.not_false beq_self_eq_true BEq.rfl Bool.not_eq_true Nat.le_refl Int.le_refl Nat.zero_le List.foldl List.map_cons List.map_nil Prod.mk.injEq Int.cast_ofNat_Int Int.zero_le_ofNat b_add_cc b_add_cl b_add_lc b_mul_cc b_mul_cl b_mul_lc b_sub_cc b_sub_cl b_sub_lc b_and_cc b_and_cl b_and_lc b_or_cc b_or_cl b_or_lc b_xor_cc b_xor_cl b_xor_lc b_andNot_cc b_andNot_cl b_andNot_lc b_shr_cc b_shr_cl b_shr_lc b_shl_cc b_shl_cl b_shl_lc b_lss b_leq b_gtr b_geq b_add_i b_sub_i b_mul_i beq_cc beq_cl beq_lc beq_ll b_quo_i b_rem_i neg_u64 wrap_i64 driveD stepD idsAt idOf maskH_nil restore_nil restore_mask List.filterMap_nil List.filterMap_cons VOp.looks VOp.makes exA
set_option maxRecDepth 100000
theorem limbs4 (D : Nat) (hD : D < 115792089237316195423570985008687907853269984665640564039457584007913129639936) : ∃ d0 d1 d2 d3 : Nat, d0 < 18446744073709551616 ∧ d1 < 18446744073709551616 ∧ d2 < 18446744073709551616 ∧ d3 < 18446744073709551616 ∧ lw D = .agg [.int .u64 (d0 : Int), .int .u64 (d1 : Int), .int .u64 (d2 : Int), .int .u64 (d3 : Int)] ∧ D = (d0 + 18446744073709551616 * d1 + 340282366920938463463374607431768211456 * d2 + 6277101735386680763835789423207666416102355444464034512896 * d3) := by
  obtain ⟨d0, d1, d2, d3, h0, h1, h2, h3, e, E⟩ := limbs D
  exact ⟨d0, d1, d2, d3, h0, h1, h2, h3, e, E hD⟩
theorem minus_c (a0 a1 a2 a3 b0 b1 b2 b3 : Nat) (ha0 : a0 < 18446744073709551616) (ha1 : a1 < 18446744073709551616) (ha2 : a2 < 18446744073709551616) (ha3 : a3 < 18446744073709551616) (hb0 : b0 < 18446744073709551616) (hb1 : b1 < 18446744073709551616) (hb2 : b2 < 18446744073709551616) (hb3 : b3 < 18446744073709551616) {h : Heap} {R : V → Heap → Prop}
    (hQ : ∀ d0 d1 d2 d3 k : Nat, d0 < 18446744073709551616 → d1 < 18446744073709551616 → d2 < 18446744073709551616 → d3 < 18446744073709551616 → k ≤ 1 → (a0 + 18446744073709551616 * a1 + 340282366920938463463374607431768211456 * a2 + 6277101735386680763835789423207666416102355444464034512896 * a3) + 115792089237316195423570985008687907853269984665640564039457584007913129639936 * k = (b0 + 18446744073709551616 * b1 + 340282366920938463463374607431768211456 * b2 + 6277101735386680763835789423207666416102355444464034512896 * b3) + (d0 + 18446744073709551616 * d1 + 340282366920938463463374607431768211456 * d2 + 6277101735386680763835789423207666416102355444464034512896 * d3) → R (.tup [.agg [.int .u64 (d0 : Int), .int .u64 (d1 : Int), .int .u64 (d2 : Int), .int .u64 (d3 : Int)], .int .u64 (k : Int)]) h) :
    VCall Tryd.prog G 81 [.agg [.int .u64 (a0 : Int), .int .u64 (a1 : Int), .int .u64 (a2 : Int), .int .u64 (a3 : Int)], .agg [.int .u64 (b0 : Int), .int .u64 (b1 : Int), .int .u64 (b2 : Int), .int .u64 (b3 : Int)]] h R := by
  rw [← lw_of ha0 ha1 ha2 ha3, ← lw_of hb0 hb1 hb2 hb3]
  refine minus' _ _ (by omega) (by omega) fun D k hD hk e => ?_
  obtain ⟨d0, d1, d2, d3, h0, h1, h2, h3, ed, eD⟩ := limbs4 D hD
  rw [ed]
  exact hQ d0 d1 d2 d3 k h0 h1 h2 h3 hk (by rw [← eD]; exact e)
theorem plus_c (a0 a1 a2 a3 b0 b1 b2 b3 : Nat) (ha0 : a0 < 18446744073709551616) (ha1 : a1 < 18446744073709551616) (ha2 : a2 < 18446744073709551616) (ha3 : a3 < 18446744073709551616) (hb0 : b0 < 18446744073709551616) (hb1 : b1 < 18446744073709551616) (hb2 : b2 < 18446744073709551616) (hb3 : b3 < 18446744073709551616) {h : Heap} {R : V → Heap → Prop}
    (hQ : ∀ d0 d1 d2 d3 k : Nat, d0 < 18446744073709551616 → d1 < 18446744073709551616 → d2 < 18446744073709551616 → d3 < 18446744073709551616 → k ≤ 1 → (a0 + 18446744073709551616 * a1 + 340282366920938463463374607431768211456 * a2 + 6277101735386680763835789423207666416102355444464034512896 * a3) + (b0 + 18446744073709551616 * b1 + 340282366920938463463374607431768211456 * b2 + 6277101735386680763835789423207666416102355444464034512896 * b3) = 115792089237316195423570985008687907853269984665640564039457584007913129639936 * k + (d0 + 18446744073709551616 * d1 + 340282366920938463463374607431768211456 * d2 + 6277101735386680763835789423207666416102355444464034512896 * d3) → R (.tup [.agg [.int .u64 (d0 : Int), .int .u64 (d1 : Int), .int .u64 (d2 : Int), .int .u64 (d3 : Int)], .int .u64 (k : Int)]) h) :
    VCall Tryd.prog G 82 [.agg [.int .u64 (a0 : Int), .int .u64 (a1 : Int), .int .u64 (a2 : Int), .int .u64 (a3 : Int)], .agg [.int .u64 (b0 : Int), .int .u64 (b1 : Int), .int .u64 (b2 : Int), .int .u64 (b3 : Int)]] h R := by
  rw [← lw_of ha0 ha1 ha2 ha3, ← lw_of hb0 hb1 hb2 hb3]
  refine plus' _ _ (by omega) (by omega) fun D k hD hk e => ?_
  obtain ⟨d0, d1, d2, d3, h0, h1, h2, h3, ed, eD⟩ := limbs4 D hD
  rw [ed]
  exact hQ d0 d1 d2 d3 k h0 h1 h2 h3 hk (by rw [← eD]; exact e)
theorem choose_c (a0 a1 a2 a3 b0 b1 b2 b3 : Nat) (ha0 : a0 < 18446744073709551616) (ha1 : a1 < 18446744073709551616) (ha2 : a2 < 18446744073709551616) (ha3 : a3 < 18446744073709551616) (hb0 : b0 < 18446744073709551616) (hb1 : b1 < 18446744073709551616) (hb2 : b2 < 18446744073709551616) (hb3 : b3 < 18446744073709551616) (k : Nat) (hk : k ≤ 1) {h : Heap} {R : V → Heap → Prop}
    (hQ : ∀ d0 d1 d2 d3 : Nat, d0 < 18446744073709551616 → d1 < 18446744073709551616 → d2 < 18446744073709551616 → d3 < 18446744073709551616 → (k = 1 → (d0 + 18446744073709551616 * d1 + 340282366920938463463374607431768211456 * d2 + 6277101735386680763835789423207666416102355444464034512896 * d3) = (a0 + 18446744073709551616 * a1 + 340282366920938463463374607431768211456 * a2 + 6277101735386680763835789423207666416102355444464034512896 * a3)) → (k = 0 → (d0 + 18446744073709551616 * d1 + 340282366920938463463374607431768211456 * d2 + 6277101735386680763835789423207666416102355444464034512896 * d3) = (b0 + 18446744073709551616 * b1 + 340282366920938463463374607431768211456 * b2 + 6277101735386680763835789423207666416102355444464034512896 * b3)) → R (.agg [.int .u64 (d0 : Int), .int .u64 (d1 : Int), .int .u64 (d2 : Int), .int .u64 (d3 : Int)]) h) :
    VCall Tryd.prog G 84 [.int .u64 ((s64 0 k : Nat) : Int), .agg [.int .u64 (a0 : Int), .int .u64 (a1 : Int), .int .u64 (a2 : Int), .int .u64 (a3 : Int)], .agg [.int .u64 (b0 : Int), .int .u64 (b1 : Int), .int .u64 (b2 : Int), .int .u64 (b3 : Int)]] h R := by
  rw [← lw_of ha0 ha1 ha2 ha3, ← lw_of hb0 hb1 hb2 hb3]
  refine choose' (decide (k = 1)) _ _ _ (mask_of hk) ?_
  have : k = 0 ∨ k = 1 := by omega
  rcases this with rfl | rfl
  · rw [if_neg (by decide), lw_of hb0 hb1 hb2 hb3]
    exact hQ _ _ _ _ hb0 hb1 hb2 hb3 (fun e => by cases e) (fun _ => rfl)
  · rw [if_pos (by decide), lw_of ha0 ha1 ha2 ha3]
    exact hQ _ _ _ _ ha0 ha1 ha2 ha3 (fun _ => rfl) (fun e => by cases e)
theorem lower' (hG : G 3 = tbl) (A : Nat) (hA : A < 115792089237316195423570985008687907853269984665640564039457584007913129639936) {h : Heap} {R : V → Heap → Prop} (hQ : R (lw (if ell ≤ A then A - ell else A)) h) : VCall Tryd.prog G 83 [lw A] h R := by
  refine vcall_plain (Q := fun v => v = lw (if ell ≤ A then A - ell else A)) (lower hG A hA _ ⟨rfl, rfl⟩) (fun g => by simp only [rens, ren, lw, lc, u]) ?_ ?_
  · rintro v g rfl; exact lw_plain _ g
  · rintro v rfl; exact hQ
theorem lower_c (hG : G 3 = tbl) (a0 a1 a2 a3 : Nat) (ha0 : a0 < 18446744073709551616) (ha1 : a1 < 18446744073709551616) (ha2 : a2 < 18446744073709551616) (ha3 : a3 < 18446744073709551616) {h : Heap} {R : V → Heap → Prop}
    (hQ : ∀ d0 d1 d2 d3 : Nat, d0 < 18446744073709551616 → d1 < 18446744073709551616 → d2 < 18446744073709551616 → d3 < 18446744073709551616 → (d0 + 18446744073709551616 * d1 + 340282366920938463463374607431768211456 * d2 + 6277101735386680763835789423207666416102355444464034512896 * d3) = (if ell ≤ (a0 + 18446744073709551616 * a1 + 340282366920938463463374607431768211456 * a2 + 6277101735386680763835789423207666416102355444464034512896 * a3) then (a0 + 18446744073709551616 * a1 + 340282366920938463463374607431768211456 * a2 + 6277101735386680763835789423207666416102355444464034512896 * a3) - ell else (a0 + 18446744073709551616 * a1 + 340282366920938463463374607431768211456 * a2 + 6277101735386680763835789423207666416102355444464034512896 * a3)) → R (.agg [.int .u64 (d0 : Int), .int .u64 (d1 : Int), .int .u64 (d2 : Int), .int .u64 (d3 : Int)]) h) :
    VCall Tryd.prog G 83 [.agg [.int .u64 (a0 : Int), .int .u64 (a1 : Int), .int .u64 (a2 : Int), .int .u64 (a3 : Int)]] h R := by
  rw [← lw_of ha0 ha1 ha2 ha3]
  refine lower' hG _ (by omega) ?_
  obtain ⟨d0, d1, d2, d3, h0, h1, h2, h3, ed, eD⟩ := limbs4 (if ell ≤ (a0 + 18446744073709551616 * a1 + 340282366920938463463374607431768211456 * a2 + 6277101735386680763835789423207666416102355444464034512896 * a3) then (a0 + 18446744073709551616 * a1 + 340282366920938463463374607431768211456 * a2 + 6277101735386680763835789423207666416102355444464034512896 * a3) - ell else (a0 + 18446744073709551616 * a1 + 340282366920938463463374607431768211456 * a2 + 6277101735386680763835789423207666416102355444464034512896 * a3)) (by split <;> omega)
  rw [ed]
  exact hQ d0 d1 d2 d3 h0 h1 h2 h3 eD.symm
theorem mul64_c (x y : Nat) (hx : x < 18446744073709551616) (hy : y < 18446744073709551616) (yi : Int) (hyi : yi = (y : Int)) {h : Heap} {R : V → Heap → Prop} (hQ : ∀ hi lo : Nat, hi < 18446744073709551616 → lo < 18446744073709551616 → x * y = 18446744073709551616 * hi + lo → R (.tup [.int .u64 (hi : Int), .int .u64 (lo : Int)]) h) : VCall Tryd.prog G 79 [.int .u64 (x : Int), .int .u64 yi] h R := by
  subst hyi; exact mul64' x y hx hy hQ
set_option maxHeartbeats 2000000 in
theorem least (hG : G 3 = tbl) (A : Nat) (hA : A < 115792089237316195423570985008687907853269984665640564039457584007913129639936) (Q : V → Heap → Prop) (hQ : Q (lw (A % ell)) []) : VCall Tryd.prog G 62 [lw A] [] Q := by
  refine vcall_body Tryd.func62 nm62 code62 nt62 ?_
  obtain ⟨a0, a1, a2, a3, ha0, ha1, ha2, ha3, ea, eA⟩ := limbs4 A hA
  rw [ea]
  by_cases h3 : a3 < 1152921504606846976
  · have hd : decide ((a3 : Int) < nl 1152921504606846976) = true := decide_eq_true (by unfold nl; omega)
    refine run_drive 12 ?_
    simp only [go_sem, v62, v62_0, v62_1, hd]
    refine run_cond_t rfl ?_
    refine run_drive 60 ?_
    simp only [go_sem, v62_2]
    refine run_ret_drop Tryd.func62 res62 [] (lw (A % ell)) [] rfl (by simp) trivial (by simp [uniq]) ?_ hQ
    have : A % ell = A := Nat.mod_eq_of_lt (by unfold ell; omega)
    rw [this, ea]
    simp only [go_sem, rr62, ren, rens]
  · have hd : decide ((a3 : Int) < nl 1152921504606846976) = false := decide_eq_false (by unfold nl; omega)
    refine run_drive 12 ?_
    simp only [go_sem, v62, v62_0, v62_1, hd]
    refine run_cond_f rfl ?_
    refine run_drive 60 ?_
    simp only [go_sem, v62_0, v62_1, v62_2, v62_3, v62_4, v62_5, v62_6, v62_7, v62_8, v62_9, v62_10, v62_11, v62_12, v62_13, v62_14, v62, hG, tbl]
    have hq : r64 a3 60 = a3 / 1152921504606846976 := rfl
    have hm : a64 a3 1152921504606846975 = a3 % 1152921504606846976 := a64_mask a3 60 (by decide) ha3 _ rfl
    rw [hq, hm]
    have hq15 : a3 / 1152921504606846976 ≤ 15 := by omega
    have hml : a3 % 1152921504606846976 < 1152921504606846976 := Nat.mod_lt _ (by decide)
    have hsplit : a3 = a3 % 1152921504606846976 + 1152921504606846976 * (a3 / 1152921504606846976) := (Nat.mod_add_div _ _).symm
    generalize a3 / 1152921504606846976 = q at *
    generalize a3 % 1152921504606846976 = l3 at *
    refine run_call' rfl ?_
    simp only [go_sem, calV]
    refine mul64_c q 6346243789798364141 (by omega) (by decide) _ rfl ?_
    intro p1 p0 hp1 hp0 ep
    refine run_drive 60 ?_
    simp only [go_sem, tbl, hG]
    refine run_call' rfl ?_
    simp only [go_sem, calV]
    refine mul64_c q 1503914060200516822 (by omega) (by decide) _ rfl ?_
    intro s1 s0 hs1 hs0 es
    refine run_drive 60 ?_
    simp only [go_sem, tbl, hG]
    refine run_call' rfl ?_
    simp only [go_sem, calV]
    refine add64 s0 p1 0 _ rfl (by decide) hs0 hp1 ?_
    intro t1 k1 ht1 hk1 et
    refine run_drive 60 ?_
    simp only [go_sem, tbl, hG]
    have hw : w64 (s1 + k1) = s1 + k1 := Nat.mod_eq_of_lt (by omega)
    rw [hw]
    refine run_call' rfl ?_
    simp only [go_sem, calV]
    refine minus_c a0 a1 a2 l3 p0 t1 (s1 + k1) 0 ha0 ha1 ha2 (by omega) hp0 ht1 (by omega) (by omega) ?_
    intro d0 d1 d2 d3 k hd0 hd1 hd2 hd3 hk ed
    refine run_drive 60 ?_
    simp only [go_sem, tbl, hG]
    refine run_call' rfl ?_
    simp only [go_sem, calV]
    refine plus_c d0 d1 d2 d3 6346243789798364141 1503914060200516822 0 1152921504606846976 hd0 hd1 hd2 hd3 (by decide) (by decide) (by decide) (by decide) ?_
    intro e0 e1 e2 e3 k' he0 he1 he2 he3 hk' ee
    refine run_drive 60 ?_
    simp only [go_sem, tbl, hG]
    refine run_call' rfl ?_
    simp only [go_sem, calV]
    refine choose_c e0 e1 e2 e3 d0 d1 d2 d3 he0 he1 he2 he3 hd0 hd1 hd2 hd3 k hk ?_
    intro f0 f1 f2 f3 hf0 hf1 hf2 hf3 hfe hfd
    refine run_drive 60 ?_
    simp only [go_sem, tbl, hG]
    refine run_call' rfl ?_
    simp only [go_sem, calV]
    refine lower_c hG f0 f1 f2 f3 hf0 hf1 hf2 hf3 ?_
    intro g0 g1 g2 g3 hg0 hg1 hg2 hg3 eg
    refine run_drive 60 ?_
    simp only [go_sem, tbl, hG]
    refine run_ret_drop Tryd.func62 res62 [] (lw (A % ell)) [] rfl (by simp) trivial (by simp [uniq]) ?_ hQ
    have key : A % ell = (g0 + 18446744073709551616 * g1 + 340282366920938463463374607431768211456 * g2 + 6277101735386680763835789423207666416102355444464034512896 * g3) := by
      have hf : (f0 + 18446744073709551616 * f1 + 340282366920938463463374607431768211456 * f2 + 6277101735386680763835789423207666416102355444464034512896 * f3) < 7237005577332262213973186563042994240857116359379907606001950938285454250989 ∧ (A = (f0 + 18446744073709551616 * f1 + 340282366920938463463374607431768211456 * f2 + 6277101735386680763835789423207666416102355444464034512896 * f3) + 7237005577332262213973186563042994240857116359379907606001950938285454250989 * q ∨ A + 7237005577332262213973186563042994240857116359379907606001950938285454250989 = (f0 + 18446744073709551616 * f1 + 340282366920938463463374607431768211456 * f2 + 6277101735386680763835789423207666416102355444464034512896 * f3) + 7237005577332262213973186563042994240857116359379907606001950938285454250989 * q) := by
        have : k = 0 ∨ k = 1 := by omega
        rcases this with rfl | rfl
        · have := hfd rfl
          omega
        · have := hfe rfl
          omega
      have hn : ¬ ell ≤ (f0 + 18446744073709551616 * f1 + 340282366920938463463374607431768211456 * f2 + 6277101735386680763835789423207666416102355444464034512896 * f3) := by unfold ell; omega
      rw [eg, if_neg hn]
      unfold ell
      omega
    rw [key, lw_of hg0 hg1 hg2 hg3]
    simp only [go_sem, rr62, ren, rens]
end Go.Vs.Tryd
namespace Go.Vs.Tryd
open Go.Proofs
variable {G : Nat → List V}
set_option linter.unusedSimpArgs false
attribute [local go_sem] lenO_nils lenO_sl sliceAtV Int.sub_zero List.length_append List.all_append ge_iff_le gt_iff_lt Int.natCast_nonneg Int.toNat_natCast Nat.mul_one b_and_ll b_shr_ll b_mul_ll b_add_ll b_or_ll b_shl_ll pick_ll pick_lc pick_bb driveS stopV Option.isSome_some Option.isSome_none Kind.m Kind.w Kind.g look_ro look_rw look_grow drive stepV exo expo evs fillV isNil nilKind eqV eqL optA optM sliceAtV ev kn ldc stc splice appV srcV lenV setd wantV exitV rvs rv one List.length_cons List.length_nil List.cons_append List.nil_append List.append_nil List.replicate List.getD_cons_zero List.getD_cons_succ List.set_cons_zero List.set_cons_succ List.getElem?_cons_zero List.getElem?_cons_succ List.getElem?_nil List.take_succ_cons List.take_zero List.take_nil List.drop_succ_cons List.drop_zero List.drop_nil List.all_cons List.all_nil List.any_cons List.any_nil Bool.and_true Bool.true_and Bool.and_self Option.map_some Option.map_none Option.bind_some Option.some.injEq Nat.add_zero Nat.zero_add Int.toNat_zero Int.toNat_one Int.zero_add Int.add_zero if_true if_false ite_true ite_false and_true true_and and_self ne_eq not_false_eq_true not_true_eq_false decide_true decide_false Bool.false_eq_true Bool.not_true Bool.not_false beq_self_eq_true BEq.rfl Bool.not_eq_true Nat.le_refl Int.le_refl Nat.zero_le List.foldl List.map_cons List.map_nil Prod.mk.injEq Int.cast_ofNat_Int Int.zero_le_ofNat b_add_cc b_add_cl b_add_lc b_mul_cc b_mul_cl b_mul_lc b_sub_cc b_sub_cl b_sub_lc b_and_cc b_and_cl b_and_lc b_or_cc b_or_cl b_or_lc b_xor_cc b_xor_cl b_xor_lc b_andNot_cc b_andNot_cl b_andNot_lc b_shr_cc b_shr_cl b_shr_lc b_shl_cc b_shl_cl b_shl_lc b_lss b_leq b_gtr b_geq b_add_i b_sub_i b_mul_i beq_cc beq_cl beq_lc beq_ll b_quo_i b_rem_i neg_u64 wrap_i64 driveD stepD idsAt idOf maskH_nil restore_nil restore_mask List.filterMap_nil List.filterMap_cons VOp.looks VOp.makes exA cells_agg cells_int cells_bool cells_str cells_nilp cells_ptr cells_glob cells_nils cells_sl cells_nilf cells_fn cells_nili cells_ifc known_agg known_tup known_int known_bool known_str known_nilp known_ptr known_glob known_nils known_sl known_nilf known_fn known_nili known_ifc known_unk one_agg one_tup one_int one_bool one_str one_nilp one_ptr one_glob one_nils one_sl one_nilf one_fn one_nili one_ifc asK_int asN_int asB_bool asS_str asG_agg asT_tup
attribute [local go_sem_proc] Nat.reduceAdd Nat.reduceSub Nat.reduceLeDiff Nat.reduceMul Nat.reduceLT Nat.reduceEqDiff Int.reduceLT Int.reduceLE Int.reduceAdd Int.reduceSub Int.reduceMul Int.reduceToNat reduceIte reduceCtorEq Nat.reduceBEq
attribute [local go_sem ↓] lc_len lc_take lc_drop lc_known lc_one lc_rens lc_cells lw_known lw_agg lw_asG
set_option maxRecDepth 100000
set_option maxHeartbeats 1000000
theorem least' (hG : G 3 = tbl) (A : Nat) (hA : A < 115792089237316195423570985008687907853269984665640564039457584007913129639936) {h : Heap} {R : V → Heap → Prop} (hQ : R (lw (A % ell)) h) : VCall Tryd.prog G 62 [lw A] h R := by
  refine vcall_plain (Q := fun v => v = lw (A % ell)) (least hG A hA _ ⟨rfl, rfl⟩) (fun g => by simp only [rens, lw_plain]) ?_ ?_
  · rintro v g rfl; exact lw_plain _ g
  · rintro v rfl; exact hQ
theorem ell_pos : 0 < ell := by decide
theorem ell_lt : ell < 115792089237316195423570985008687907853269984665640564039457584007913129639936 := by decide
theorem mod_lt (n : Nat) : n % ell < 115792089237316195423570985008687907853269984665640564039457584007913129639936 := Nat.lt_trans (Nat.mod_lt _ ell_pos) ell_lt
theorem mod_lt' (n : Nat) : n % ell < ell := Nat.mod_lt _ ell_pos
theorem lc_eqL {A B : Nat} (hA : A < 115792089237316195423570985008687907853269984665640564039457584007913129639936) (hB : B < 115792089237316195423570985008687907853269984665640564039457584007913129639936) : eqL [.i, .i, .i, .i] (lc A) (lc B) = some (decide (A = B)) := by
  simp only [eqL, eqV, lc, u, asK, asN, if_true, beq_cc, Option.some.injEq]
  rw [Bool.eq_iff_iff]
  simp only [Bool.and_eq_true, decide_eq_true_eq, Bool.and_true]
  omega
theorem lc_small {n : Nat} (h : n < 18446744073709551616) : [V.int .u64 (n : Int), V.int .u64 (nl 0), V.int .u64 (nl 0), V.int .u64 (nl 0)] = lc n := by
  unfold lc u
  rw [show n % 18446744073709551616 = n by omega, show n / 18446744073709551616 % 18446744073709551616 = 0 by omega, show n / 340282366920938463463374607431768211456 % 18446744073709551616 = 0 by omega, show n / 6277101735386680763835789423207666416102355444464034512896 % 18446744073709551616 = 0 by omega]
  rfl
theorem int_ (n : Nat) (hn : n < 18446744073709551616) (Q : V → Heap → Prop) (hQ : Q (lw n) []) : VCall Tryd.prog G 23 [.int .u64 (n : Int)] [] Q := by
  refine vcall_body Tryd.func23 nm23 code23 nt23 ?_
  refine run_drive 60 ?_
  simp only [go_sem, v23, v23_0, v23_1]
  refine run_ret_drop Tryd.func23 res23 [] (lw n) [] rfl (by simp) trivial (by simp [uniq]) ?_ hQ
  simp only [go_sem, rr23, lw_plain, lc_small hn]
end Go.Vs.Tryd
namespace Go.Vs.Pr
def Pr (p : Nat) : Prop := 2 ≤ p ∧ ∀ d, d ∣ p → d = 1 ∨ d = p
theorem pr_cop {p a : Nat} (h : Pr p) (ha : ¬ p ∣ a) : Nat.Coprime p a := by
  rcases h.2 _ (Nat.gcd_dvd_left p a) with e | e
  · exact e
  · exact absurd (e ▸ Nat.gcd_dvd_right p a) ha
def ch : Nat → Nat → Nat
  | _, 0 => 1
  | 0, _ + 1 => 0
  | n + 1, k + 1 => ch n k + ch n (k + 1)
theorem ch_zero (n : Nat) : ch n 0 = 1 := by cases n <;> rfl
theorem ch_step (n k : Nat) : ch (n + 1) (k + 1) = ch n k + ch n (k + 1) := rfl
theorem ch_lt : ∀ {n k : Nat}, n < k → ch n k = 0
  | n, 0, h => by omega
  | 0, k + 1, _ => rfl
  | n + 1, k + 1, h => by rw [ch_step, ch_lt (by omega), ch_lt (by omega)]
theorem ch_self : ∀ n, ch n n = 1
  | 0 => rfl
  | n + 1 => by rw [ch_step, ch_self n, ch_lt (Nat.lt_succ_self n)]
theorem ch_mul : ∀ n k : Nat, (n + 1) * ch n k = ch (n + 1) (k + 1) * (k + 1)
  | 0, 0 => rfl
  | 0, k + 1 => by rw [ch_lt (by omega : 0 < k + 1), ch_lt (by omega : 0 + 1 < k + 1 + 1)]; omega
  | n + 1, 0 => by
    have := ch_mul n 0
    rw [ch_zero] at *
    rw [ch_step, ch_zero]
    omega
  | n + 1, k + 1 => by
    have h1 := ch_mul n k
    have h2 := ch_mul n (k + 1)
    rw [ch_step (n + 1) (k + 1)]
    have e : ch (n + 1) (k + 1) = ch n k + ch n (k + 1) := rfl
    generalize ch (n + 1) (k + 1) = Z at *
    generalize ch (n + 1) (k + 1 + 1) = W at *
    rw [Nat.add_mul Z W, ← h2, Nat.mul_succ Z (k + 1), ← h1, Nat.succ_mul (n + 1) Z]
    rw [e, Nat.mul_add]
    omega
def S (n a : Nat) : Nat → Nat
  | 0 => 0
  | m + 1 => S n a m + ch n m * a ^ m
theorem S_step (n a : Nat) : ∀ m, S (n + 1) a (m + 1) = S n a (m + 1) + a * S n a m
  | 0 => by simp [S, ch_zero]
  | m + 1 => by
    have ih := S_step n a m
    show S (n + 1) a (m + 1) + ch (n + 1) (m + 1) * a ^ (m + 1) = (S n a (m + 1) + ch n (m + 1) * a ^ (m + 1)) + a * (S n a m + ch n m * a ^ m)
    rw [ih, ch_step, Nat.add_mul, Nat.mul_add, Nat.pow_succ, show a * (ch n m * a ^ m) = ch n m * (a ^ m * a) by rw [Nat.mul_left_comm, Nat.mul_comm a]]
    omega
theorem S_all (a : Nat) : ∀ n, S n a (n + 1) = (a + 1) ^ n
  | 0 => by simp [S, ch]
  | n + 1 => by
    rw [S_step, show S n a (n + 1 + 1) = S n a (n + 1) + ch n (n + 1) * a ^ (n + 1) from rfl, ch_lt (Nat.lt_succ_self n), S_all a n, Nat.zero_mul, Nat.add_zero, Nat.pow_succ, Nat.mul_add, Nat.mul_one, Nat.mul_comm a, Nat.add_comm]
theorem ch_dvd {p k : Nat} (h : Pr p) (hk : 0 < k) (hkp : k < p) : p ∣ ch p k := by
  obtain ⟨k, rfl⟩ : ∃ j, k = j + 1 := ⟨k - 1, by omega⟩
  obtain ⟨n, rfl⟩ : ∃ j, p = j + 1 := ⟨p - 1, by have := h.1; omega⟩
  have e := ch_mul n k
  have hd : (n + 1) ∣ ch (n + 1) (k + 1) * (k + 1) := ⟨_, e.symm⟩
  refine Nat.Coprime.dvd_of_dvd_mul_right (pr_cop h ?_) hd
  intro hh
  have := Nat.le_of_dvd (by omega) hh
  omega
theorem S_mod {p : Nat} (h : Pr p) (a : Nat) : ∀ m, m < p → S p a (m + 1) % p = 1 % p
  | 0, _ => by simp [S, ch_zero]
  | m + 1, hm => by
    show (S p a (m + 1) + ch p (m + 1) * a ^ (m + 1)) % p = _
    obtain ⟨c, hc⟩ := ch_dvd h (Nat.succ_pos m) hm
    rw [hc, Nat.mul_assoc, Nat.add_mul_mod_self_left, S_mod h a m (by omega)]
theorem dream {p : Nat} (h : Pr p) (a : Nat) : (a + 1) ^ p % p = (a ^ p + 1) % p := by
  rw [← S_all a p]
  obtain ⟨n, hn⟩ : ∃ j, p = j + 1 := ⟨p - 1, by have := h.1; omega⟩
  have e := S_mod h a n (by omega)
  rw [← hn] at e
  show (S p a p + ch p p * a ^ p) % p = _
  rw [Nat.add_mod, e, ch_self, Nat.one_mul, ← Nat.add_mod, Nat.add_comm]
theorem fermat0 {p : Nat} (h : Pr p) : ∀ a, a ^ p % p = a % p
  | 0 => by rw [Nat.zero_pow (by have := h.1; omega)]
  | a + 1 => by rw [dream h, Nat.add_mod, fermat0 h a, ← Nat.add_mod]
theorem dvd_of_mod_eq {p a b : Nat} (h : a % p = b % p) : p ∣ a - b := Nat.dvd_of_mod_eq_zero (Nat.sub_mod_eq_zero_of_mod_eq h)
theorem fermat {p a : Nat} (h : Pr p) (ha : ¬ p ∣ a) : a ^ (p - 1) % p = 1 := by
  have h2 := h.1
  have e : a ^ p = a * a ^ (p - 1) := by
    rw [Nat.mul_comm, ← Nat.pow_succ, show (p - 1).succ = p by omega]
  have hd := dvd_of_mod_eq (fermat0 h a)
  rw [e] at hd
  have hp : 0 < a := Nat.pos_of_ne_zero fun e => ha (e ▸ Nat.dvd_zero p)
  have hq : 0 < a ^ (p - 1) := Nat.pow_pos hp
  rw [show a * a ^ (p - 1) - a = a * (a ^ (p - 1) - 1) by rw [Nat.mul_sub, Nat.mul_one]] at hd
  obtain ⟨c, hc⟩ := Nat.Coprime.dvd_of_dvd_mul_left (pr_cop h ha) hd
  rw [show a ^ (p - 1) = 1 + p * c by omega, Nat.add_mul_mod_self_left, Nat.mod_eq_of_lt (by omega)]
theorem has_pr : ∀ (b n : Nat), n ≤ b → 2 ≤ n → ∃ p, Pr p ∧ p ∣ n
  | 0, n, h, h2 => by omega
  | b + 1, n, h, h2 => by
    by_cases hp : Pr n
    · exact ⟨n, hp, Nat.dvd_refl n⟩
    · have : ∃ d, d ∣ n ∧ d ≠ 1 ∧ d ≠ n := by
        apply Classical.byContradiction
        intro hne
        refine hp ⟨h2, fun d hd => ?_⟩
        by_cases h1 : d = 1
        · exact .inl h1
        · by_cases h3 : d = n
          · exact .inr h3
          · exact (hne ⟨d, hd, h1, h3⟩).elim
      obtain ⟨d, hd, h1, h3⟩ := this
      have hle := Nat.le_of_dvd (by omega) hd
      have h0 : d ≠ 0 := by
        rintro rfl
        have := Nat.eq_zero_of_zero_dvd hd
        omega
      obtain ⟨p, hp, hpd⟩ := has_pr b d (by omega) (by omega)
      exact ⟨p, hp, Nat.dvd_trans hpd hd⟩
theorem pr_of {N B : Nat} (h2 : 2 ≤ N) (hB : N < (B + 1) * (B + 1)) (h : ∀ p, Pr p → p ∣ N → B < p) : Pr N := by
  refine ⟨h2, fun d hd => ?_⟩
  apply Classical.byContradiction
  intro hne
  obtain ⟨e, he⟩ := hd
  have h1 : d ≠ 1 := fun e => hne (.inl e)
  have h3 : d ≠ N := fun e => hne (.inr e)
  have hd0 : d ≠ 0 := by rintro rfl; omega
  have he0 : e ≠ 0 := by rintro rfl; omega
  have he1 : e ≠ 1 := by rintro rfl; omega
  obtain ⟨p, hp, hpd⟩ := has_pr d d (Nat.le_refl d) (by omega)
  obtain ⟨q, hq, hqe⟩ := has_pr e e (Nat.le_refl e) (by omega)
  have a1 := h p hp (he ▸ Nat.dvd_trans hpd ⟨e, rfl⟩)
  have a2 := h q hq (he ▸ Nat.dvd_trans hqe ⟨d, Nat.mul_comm d e⟩)
  have b1 := Nat.le_of_dvd (by omega) hpd
  have b2 := Nat.le_of_dvd (by omega) hqe
  have : (B + 1) * (B + 1) ≤ d * e := Nat.mul_le_mul (by omega) (by omega)
  omega
theorem one_pow_mod {p x : Nat} (h1 : 2 ≤ p) (h : x % p = 1) (k : Nat) : x ^ k % p = 1 := by
  rw [Nat.pow_mod, h, Nat.one_pow, Nat.mod_eq_of_lt (by omega)]
theorem pow_gcd {p x : Nat} (h1 : 2 ≤ p) (m n : Nat) : x ^ m % p = 1 → x ^ n % p = 1 → x ^ (Nat.gcd m n) % p = 1 := by
  induction m, n using Nat.gcd.induction with
  | H0 n => intro _ h; simpa using h
  | H1 m n hm ih =>
    intro a b
    rw [Nat.gcd_rec]
    refine ih ?_ a
    have e : x ^ n = (x ^ m) ^ (n / m) * x ^ (n % m) := by rw [← Nat.pow_mul, ← Nat.pow_add, Nat.div_add_mod]
    rw [e, Nat.mul_mod, one_pow_mod h1 a, Nat.one_mul, Nat.mod_mod] at b
    exact b
theorem mod_of_dvd {p N x y : Nat} (h : p ∣ N) (e : x % N = y % N) : x % p = y % p := by
  rw [← Nat.mod_mod_of_dvd x h, e, Nat.mod_mod_of_dvd y h]
theorem pock {N q a p : Nat} (hN : 2 ≤ N) (hq : Pr q) (hqN : q ∣ N - 1) (ha : a ^ (N - 1) % N = 1) (hg : Nat.gcd (a ^ ((N - 1) / q) % N + (N - 1)) N = 1) (hp : Pr p) (hpN : p ∣ N) : q ∣ p - 1 := by
  have hp2 := hp.1
  have h1 : a ^ (N - 1) % p = 1 := by
    rw [mod_of_dvd hpN (y := 1) (by rw [ha, Nat.mod_eq_of_lt (by omega)]), Nat.mod_eq_of_lt (by omega)]
  generalize hx : a ^ ((N - 1) / q) = x at hg
  have hxq : x ^ q % p = 1 := by rw [← hx, ← Nat.pow_mul, Nat.div_mul_cancel hqN]; exact h1
  have hpx : ¬ p ∣ x := by
    intro h
    have : x ^ q % p = 0 := by
      rw [Nat.pow_mod, Nat.mod_eq_zero_of_dvd h, Nat.zero_pow (by have := hq.1; omega), Nat.zero_mod]
    omega
  have hf := fermat hp hpx
  apply Classical.byContradiction
  intro hne
  have hc := pr_cop hq hne
  have h3 := pow_gcd hp2 _ _ hxq hf
  rw [show Nat.gcd q (p - 1) = 1 from hc, Nat.pow_one] at h3
  have h4 : p ∣ x % N + (N - 1) := by
    apply Nat.dvd_of_mod_eq_zero
    rw [Nat.add_mod, Nat.mod_mod_of_dvd x hpN, h3, ← Nat.add_mod_mod, Nat.mod_mod]
    rw [Nat.add_mod_mod, show 1 + (N - 1) = N by omega]
    exact Nat.mod_eq_zero_of_dvd hpN
  have h5 := Nat.dvd_gcd h4 hpN
  rw [hg] at h5
  have := Nat.le_of_dvd (by omega) h5
  omega
def pm (n : Nat) : Nat → Nat → Nat → Nat → Nat
  | 0, _, _, acc => acc % n
  | f + 1, b, e, acc => bif Nat.beq (e % 2) 1 then pm n f (b * b % n) (e / 2) (acc * b % n) else pm n f (b * b % n) (e / 2) acc
theorem pm_eq (n : Nat) : ∀ (f b e acc : Nat), e < 2 ^ f → pm n f b e acc = acc * b ^ e % n
  | 0, b, e, acc, h => by
    have : e = 0 := by rw [Nat.pow_zero] at h; omega
    subst this; simp [pm]
  | f + 1, b, e, acc, h => by
    have h' : e / 2 < 2 ^ f := by rw [Nat.pow_succ] at h; omega
    have key : (b * b % n) ^ (e / 2) % n = b ^ (2 * (e / 2)) % n := by
      rw [← Nat.pow_mod, ← Nat.pow_two, ← Nat.pow_mul]
    unfold pm
    cases hb : Nat.beq (e % 2) 1
    · have he : e % 2 ≠ 1 := fun h => by rw [h] at hb; cases hb
      simp only [cond_false]
      rw [pm_eq n f _ _ _ h', Nat.mul_mod, key, ← Nat.mul_mod, show 2 * (e / 2) = e by omega]
    · have he : e % 2 = 1 := Nat.eq_of_beq_eq_true hb
      simp only [cond_true]
      rw [pm_eq n f _ _ _ h', Nat.mul_mod, key, Nat.mod_mod, ← Nat.mul_mod, Nat.mul_assoc, Nat.mul_comm b, ← Nat.pow_succ, show (2 * (e / 2)).succ = e by omega]
theorem pm_one {n f b e : Nat} (h : e < 2 ^ f) : b ^ e % n = pm n f b e 1 := by rw [pm_eq n f b e 1 h, Nat.one_mul]
theorem pock' {N q a p : Nat} (h : (decide (2 ≤ N) && Nat.beq ((N - 1) % q) 0 && Nat.beq (pm N 256 a (N - 1) 1) 1 && Nat.beq (Nat.gcd (pm N 256 a ((N - 1) / q) 1 + (N - 1)) N) 1 && decide (N < 2 ^ 256)) = true) (hq : Pr q) (hp : Pr p) (hpN : p ∣ N) : q ∣ p - 1 := by
  simp only [Bool.and_eq_true, decide_eq_true_eq] at h
  obtain ⟨⟨⟨⟨h1, h2⟩, h3⟩, h4⟩, h5⟩ := h
  have h3 := Nat.eq_of_beq_eq_true h3
  have h4 := Nat.eq_of_beq_eq_true h4
  rw [← pm_one (by omega)] at h3
  rw [← pm_one (Nat.lt_of_le_of_lt (Nat.div_le_self _ _) (by omega))] at h4
  exact pock h1 hq (Nat.dvd_of_mod_eq_zero (Nat.eq_of_beq_eq_true h2)) h3 h4 hp hpN
theorem pock1 {N q a : Nat} (h : (decide (2 ≤ N) && Nat.beq ((N - 1) % q) 0 && Nat.beq (pm N 256 a (N - 1) 1) 1 && Nat.beq (Nat.gcd (pm N 256 a ((N - 1) / q) 1 + (N - 1)) N) 1 && decide (N < 2 ^ 256)) = true) (hq : Pr q) (hs : N < (q + 1) * (q + 1)) : Pr N := by
  refine pr_of (B := q) ?_ hs fun p hp hpN => ?_
  · simp only [Bool.and_eq_true, decide_eq_true_eq] at h
    exact h.1.1.1.1
  · have := Nat.le_of_dvd (by have := hp.1; omega) (pock' h hq hp hpN)
    have := hp.1
    omega
def nod (n : Nat) : Nat → Bool
  | 0 => true
  | 1 => true
  | m + 2 => !(Nat.beq (n % (m + 2)) 0) && nod n (m + 1)
theorem nod_get {n : Nat} : ∀ {m d : Nat}, nod n m = true → 2 ≤ d → d ≤ m → ¬ d ∣ n
  | 0, d, _, h2, h3 => by omega
  | 1, d, _, h2, h3 => by omega
  | m + 2, d, h, h2, h3 => by
    simp only [nod, Bool.and_eq_true, Bool.not_eq_true'] at h
    by_cases e : d = m + 2
    · subst e
      intro hd
      rw [Nat.mod_eq_zero_of_dvd hd] at h
      cases h.1
    · exact nod_get h.2 h2 (by omega)
theorem small {n m : Nat} (h2 : 2 ≤ n) (hm : n < (m + 1) * (m + 1)) (h : nod n m = true) : Pr n := by
  refine pr_of h2 hm fun p hp hpn => ?_
  rcases Nat.lt_or_ge m p with h1 | h1
  · exact h1
  · exact (nod_get h hp.1 h1 hpn).elim
theorem p1 : Pr 1224481 := small (m := 1200) (by decide) (by decide) (by decide +kernel)
theorem p2 : Pr 531581 := small (m := 1200) (by decide) (by decide) (by decide +kernel)
theorem p3a {p : Nat} (hp : Pr p) (hpN : p ∣ 1257559732178653) : 1224481 ∣ p - 1 := pock' (N := 1257559732178653) (a := 2) (by decide +kernel) p1 hp hpN
theorem p3b {p : Nat} (hp : Pr p) (hpN : p ∣ 1257559732178653) : 531581 ∣ p - 1 := pock' (N := 1257559732178653) (a := 2) (by decide +kernel) p2 hp hpN
theorem both {m n p B : Nat} (hc : Nat.gcd m n = 1) (hp : Pr p) (a1 : m ∣ p - 1) (a2 : n ∣ p - 1) (hB : m * n = B) : B < p := by
  have h2 := hp.1
  have hd : m * n ∣ p - 1 := Nat.Coprime.mul_dvd_of_dvd_of_dvd hc a1 a2
  have := Nat.le_of_dvd (by omega) hd
  omega
theorem p3 : Pr 1257559732178653 := pr_of (B := 650910834461) (by decide) (by decide) fun p hp hpN => both (by decide +kernel) hp (p3a hp hpN) (p3b hp hpN) (by decide)
theorem p4 : Pr 4434155615661930479 := pock1 (a := 2) (by decide +kernel) p3 (by decide)
theorem p5 : Pr 172054593956031949258510691 := pock1 (a := 2) (by decide +kernel) p4 (by decide)
theorem p6 : Pr 19757330305831588566944191468367130476339 := pock1 (a := 2) (by decide +kernel) p5 (by decide)
theorem p7 : Pr 276602624281642239937218680557139826668747 := pock1 (a := 2) (by decide +kernel) p6 (by decide)
end Go.Vs.Pr
namespace Go.Vs.Tryd
open Go.Proofs
variable {G : Nat → List V}
set_option linter.unusedSimpArgs false
attribute [local go_sem] lenO_nils lenO_sl sliceAtV Int.sub_zero List.length_append List.all_append ge_iff_le gt_iff_lt Int.natCast_nonneg Int.toNat_natCast Nat.mul_one b_and_ll b_shr_ll b_mul_ll b_add_ll b_or_ll b_shl_ll pick_ll pick_lc pick_bb driveS stopV Option.isSome_some Option.isSome_none Kind.m Kind.w Kind.g look_ro look_rw look_grow drive stepV exo expo evs fillV isNil nilKind eqV eqL optA optM sliceAtV ev kn ldc stc splice appV srcV lenV setd wantV exitV rvs rv one List.length_cons List.length_nil List.cons_append List.nil_append List.append_nil List.replicate List.getD_cons_zero List.getD_cons_succ List.set_cons_zero List.set_cons_succ List.getElem?_cons_zero List.getElem?_cons_succ List.getElem?_nil List.take_succ_cons List.take_zero List.take_nil List.drop_succ_cons List.drop_zero List.drop_nil List.all_cons List.all_nil List.any_cons List.any_nil Bool.and_true Bool.true_and Bool.and_self Option.map_some Option.map_none Option.bind_some Option.some.injEq Nat.add_zero Nat.zero_add Int.toNat_zero Int.toNat_one Int.zero_add Int.add_zero if_true if_false ite_true ite_false and_true true_and and_self ne_eq not_false_eq_true not_true_eq_false decide_true decide_false Bool.false_eq_true Bool.not_true Bool.not_false beq_self_eq_true BEq.rfl Bool.not_eq_true Nat.le_refl Int.le_refl Nat.zero_le List.foldl List.map_cons List.map_nil Prod.mk.injEq Int.cast_ofNat_Int Int.zero_le_ofNat b_add_cc b_add_cl b_add_lc b_mul_cc b_mul_cl b_mul_lc b_sub_cc b_sub_cl b_sub_lc b_and_cc b_and_cl b_and_lc b_or_cc b_or_cl b_or_lc b_xor_cc b_xor_cl b_xor_lc b_andNot_cc b_andNot_cl b_andNot_lc b_shr_cc b_shr_cl b_shr_lc b_shl_cc b_shl_cl b_shl_lc b_lss b_leq b_gtr b_geq b_add_i b_sub_i b_mul_i beq_cc beq_cl beq_lc beq_ll b_quo_i b_rem_i neg_u64 wrap_i64 driveD stepD idsAt idOf maskH_nil restore_nil restore_mask List.filterMap_nil List.filterMap_cons VOp.looks VOp.makes exA cells_agg cells_int cells_bool cells_str cells_nilp cells_ptr cells_glob cells_nils cells_sl cells_nilf cells_fn cells_nili cells_ifc known_agg known_tup known_int known_bool known_str known_nilp known_ptr known_glob known_nils known_sl known_nilf known_fn known_nili known_ifc known_unk one_agg one_tup one_int one_bool one_str one_nilp one_ptr one_glob one_nils one_sl one_nilf one_fn one_nili one_ifc asK_int asN_int asB_bool asS_str asG_agg asT_tup
attribute [local go_sem ↓] lc_len lc_take lc_drop lc_known lc_one lc_rens lc_cells lw_known lw_agg lw_asG
set_option maxRecDepth 100000
set_option maxHeartbeats 1000000
theorem linv_ex : ∃ f : Nat → Nat, ∀ A, f A = A ^ (ell - 2) % ell := ⟨fun A => A ^ (ell - 2) % ell, fun _ => rfl⟩
noncomputable def linv : Nat → Nat := Classical.choose linv_ex
theorem int' (n : Nat) (hn : n < 18446744073709551616) {h : Heap} {R : V → Heap → Prop} (hQ : R (lw n) h) : VCall Tryd.prog G 23 [.int .u64 (n : Int)] h R := by
  refine vcall_plain (Q := fun v => v = lw n) (int_ n hn _ ⟨rfl, rfl⟩) (fun g => by simp only [rens, ren]) ?_ ?_
  · rintro v g rfl; exact lw_plain _ g
  · rintro v rfl; exact hQ
end Go.Vs.Tryd
namespace Go.Vs
def row : Nat → (Nat → List V) → List V
  | 0, _ => []
  | n + 1, e => row n e ++ e n
def upd {α : Type} (e : Nat → α) (i : Nat) (c : α) : Nat → α := fun j => if j = i then c else e j
theorem upd_same {α : Type} (e : Nat → α) (i : Nat) (c : α) : upd e i c i = c := if_pos rfl
theorem upd_ne {α : Type} {e : Nat → α} {i j : Nat} {c : α} (h : j ≠ i) : upd e i c j = e j := if_neg h
theorem row_len {s : Nat} {e : Nat → List V} (hs : ∀ j, (e j).length = s) : ∀ n, (row n e).length = n * s
  | 0 => by simp [row]
  | n + 1 => by rw [row, List.length_append, row_len hs n, hs, Nat.succ_mul]
theorem row_congr {e e' : Nat → List V} : ∀ {n : Nat}, (∀ j, j < n → e j = e' j) → row n e = row n e'
  | 0, _ => rfl
  | n + 1, h => by rw [row, row, row_congr (n := n) fun j hj => h j (by omega), h n (Nat.lt_succ_self n)]
theorem row_get {s : Nat} {e : Nat → List V} (hs : ∀ j, (e j).length = s) (rest : List V) : ∀ {n i : Nat}, i < n → ((row n e ++ rest).drop (i * s)).take s = e i
  | 0, i, h => by omega
  | n + 1, i, h => by
    rw [row, List.append_assoc]
    by_cases hi : i = n
    · subst hi
      rw [List.drop_append_of_le_length (by rw [row_len hs]; exact Nat.le_refl _), List.drop_eq_nil_of_le (by rw [row_len hs]; exact Nat.le_refl _), List.nil_append]
      rw [List.take_append_of_le_length (by rw [hs]; exact Nat.le_refl _), List.take_of_length_le (by rw [hs]; exact Nat.le_refl _)]
    · exact row_get hs _ (by omega)
theorem row_get' {s : Nat} {e : Nat → List V} (hs : ∀ j, (e j).length = s) {n i : Nat} (h : i < n) : ((row n e).drop (i * s)).take s = e i := by
  have := row_get hs [] h
  rwa [List.append_nil] at this
theorem splice_append {a b cs : List V} {o : Nat} (h : o + cs.length ≤ a.length) : splice (a ++ b) o cs = splice a o cs ++ b := by
  unfold splice
  rw [List.take_append_of_le_length (by omega), List.drop_append_of_le_length (by omega), List.append_assoc, List.append_assoc, List.append_assoc]
theorem row_set {s : Nat} {e : Nat → List V} (hs : ∀ j, (e j).length = s) {cs : List V} (hc : cs.length = s) : ∀ {n i : Nat}, i < n → splice (row n e) (i * s) cs = row n (upd e i cs)
  | 0, i, h => by omega
  | n + 1, i, h => by
    by_cases hi : i = n
    · subst hi
      rw [row, row, upd_same]
      unfold splice
      rw [List.take_append_of_le_length (by rw [row_len hs]; exact Nat.le_refl _), List.take_of_length_le (by rw [row_len hs]; exact Nat.le_refl _)]
      rw [List.drop_eq_nil_of_le (by rw [List.length_append, row_len hs, hs, hc]; exact Nat.le_refl _), List.append_nil]
      congr 1
      exact row_congr fun j hj => (upd_ne (by omega)).symm
    · have : (i + 1) * s ≤ n * s := Nat.mul_le_mul_right s (by omega)
      rw [Nat.succ_mul] at this
      rw [row, row, upd_ne (fun e => hi e.symm), splice_append (by rw [row_len hs, hc]; exact this), row_set hs hc (by omega)]
theorem row_all {p : V → Bool} {e : Nat → List V} (h : ∀ j, (e j).all p = true) : ∀ n, (row n e).all p = true
  | 0 => rfl
  | n + 1 => by rw [row, List.all_append, row_all h n, h]; rfl
theorem row_rens {g : Nat → Nat} {e : Nat → List V} (h : ∀ j, rens g (e j) = e j) : ∀ n, rens g (row n e) = row n e
  | 0 => rfl
  | n + 1 => by rw [row, rens_append, row_rens h n, h]
theorem row_zero (z : List V) : ∀ n, (List.replicate n z).flatten = row n fun _ => z
  | 0 => rfl
  | n + 1 => by rw [row, ← row_zero z n, List.replicate_succ', List.flatten_concat]
theorem fit_rens (g : Nat → Nat) : ∀ l : List V, fit g l (rens g l)
  | [] => trivial
  | v :: l => ⟨.inr rfl, fit_rens g l⟩
theorem fit_same {g : Nat → Nat} {l : List V} (h : rens g l = l) : fit g l l := by
  have := fit_rens g l
  rwa [h] at this
end Go.Vs
namespace Go.Vs.Tryd
open Go.Proofs
variable {G : Nat → List V}
set_option linter.unusedSimpArgs false
attribute [local go_sem] lenO_nils lenO_sl sliceAtV Int.sub_zero List.length_append List.all_append ge_iff_le gt_iff_lt Int.natCast_nonneg Int.toNat_natCast Nat.mul_one b_and_ll b_shr_ll b_mul_ll b_add_ll b_or_ll b_shl_ll pick_ll pick_lc pick_bb driveS stopV Option.isSome_some Option.isSome_none Kind.m Kind.w Kind.g look_ro look_rw look_grow drive stepV exo expo evs fillV isNil nilKind eqV eqL optA optM sliceAtV ev kn ldc stc splice appV srcV lenV setd wantV exitV rvs rv one List.length_cons List.length_nil List.cons_append List.nil_append List.append_nil List.replicate List.getD_cons_zero List.getD_cons_succ List.set_cons_zero List.set_cons_succ List.getElem?_cons_zero List.getElem?_cons_succ List.getElem?_nil List.take_succ_cons List.take_zero List.take_nil List.drop_succ_cons List.drop_zero List.drop_nil List.all_cons List.all_nil List.any_cons List.any_nil Bool.and_true Bool.true_and Bool.and_self Option.map_some Option.map_none Option.bind_some Option.some.injEq Nat.add_zero Nat.zero_add Int.toNat_zero Int.toNat_one Int.zero_add Int.add_zero if_true if_false ite_true ite_false and_true true_and and_self ne_eq not_false_eq_true not_true_eq_false decide_true decide_false Bool.false_eq_true Bool.not_true Bool.not_false beq_self_eq_true BEq.rfl Bool.not_eq_true Nat.le_refl Int.le_refl Nat.zero_le List.foldl List.map_cons List.map_nil Prod.mk.injEq Int.cast_ofNat_Int Int.zero_le_ofNat b_add_cc b_add_cl b_add_lc b_mul_cc b_mul_cl b_mul_lc b_sub_cc b_sub_cl b_sub_lc b_and_cc b_and_cl b_and_lc b_or_cc b_or_cl b_or_lc b_xor_cc b_xor_cl b_xor_lc b_andNot_cc b_andNot_cl b_andNot_lc b_shr_cc b_shr_cl b_shr_lc b_shl_cc b_shl_cl b_shl_lc b_lss b_leq b_gtr b_geq b_add_i b_sub_i b_mul_i beq_cc beq_cl beq_lc beq_ll b_quo_i b_rem_i neg_u64 wrap_i64 driveD stepD idsAt idOf maskH_nil restore_nil restore_mask List.filterMap_nil List.filterMap_cons VOp.looks VOp.makes exA cells_agg cells_int cells_bool cells_str cells_nilp cells_ptr cells_glob cells_nils cells_sl cells_nilf cells_fn cells_nili cells_ifc known_agg known_tup known_int known_bool known_str known_nilp known_ptr known_glob known_nils known_sl known_nilf known_fn known_nili known_ifc known_unk one_agg one_tup one_int one_bool one_str one_nilp one_ptr one_glob one_nils one_sl one_nilf one_fn one_nili one_ifc asK_int asN_int asB_bool asS_str asG_agg asT_tup
attribute [local go_sem_proc] Nat.reduceAdd Nat.reduceSub Nat.reduceLeDiff Nat.reduceMul Nat.reduceLT Nat.reduceEqDiff Int.reduceLT Int.reduceLE Int.reduceAdd Int.reduceSub Int.reduceMul Int.reduceToNat reduceIte reduceCtorEq Nat.reduceBEq
attribute [local go_sem ↓] lc_len lc_take lc_drop lc_known lc_one lc_rens lc_cells lw_known lw_agg lw_asG
set_option maxRecDepth 100000
set_option maxHeartbeats 1000000
theorem ref_l {h : Heap} {R : V → Heap → Prop} (hQ : R (lw ell) h) : VCall Tryd.prog G 60 [] h R := by
  refine vcall_plain (Q := fun v => v = lw ell) ?_ (fun g => by simp only [rens]) ?_ ?_
  · refine vcall_body Tryd.func60 nm60 code60 nt60 ?_
    refine run_driveS 80 ?_
    simp only [go_sem, v60, v60_0, v60_1]
    refine run_ret_drop Tryd.func60 res60 [] (lw ell) [] rfl (by simp) trivial (by simp [uniq]) ?_ ⟨rfl, rfl⟩
    simp only [go_sem, rr60, lw_plain]
    rfl
  · rintro v g rfl; exact lw_plain _ g
  · rintro v rfl; exact hQ
theorem lt_nat (a b : Nat) : decide ((a : Int) < (b : Int)) = decide (a < b) := by
  rw [Bool.eq_iff_iff]; simp
theorem lt_natl (a b : Nat) : decide ((a : Int) < nl b) = decide (a < b) := lt_nat a b
theorem lt_lnat (a b : Nat) : decide (nl a < (b : Int)) = decide (a < b) := lt_nat a b
theorem lt_ll (a b : Nat) : decide (nl a < nl b) = decide (a < b) := lt_nat a b
attribute [local go_sem] lt_nat lt_natl lt_lnat lt_ll
theorem ref_below (A B : Nat) (hA : A < 115792089237316195423570985008687907853269984665640564039457584007913129639936) (hB : B < 115792089237316195423570985008687907853269984665640564039457584007913129639936) {h : Heap} {R : V → Heap → Prop} (hQ : R (.bool (decide (A < B))) h) : VCall Tryd.prog G 59 [lw A, lw B] h R := by
  refine vcall_plain (Q := fun v => v = .bool (decide (A < B))) ?_ (fun g => by simp only [rens, lw_plain]) ?_ ?_
  · obtain ⟨a0, a1, a2, a3, ha0, ha1, ha2, ha3, ea, eA⟩ := limbs A
    obtain ⟨b0, b1, b2, b3, hb0, hb1, hb2, hb3, eb, eB⟩ := limbs B
    have eA := eA hA
    have eB := eB hB
    rw [ea, eb]
    refine vcall_body Tryd.func59 nm59 code59 nt59 ?_
    refine run_driveS 80 ?_
    simp only [go_sem, v59, v59_0, v59_1, v59_8]
    refine run_loop_eq v59_7.eq_1 ?_
    refine run_driveS 80 ?_
    simp only [go_sem, v59_2, v59_5]
    refine run_drw (by kernel_rfl) ?_
    refine drun_drive 40 (p := (_, _)) ?_
    simp only [go_sem, v59_3]
    refine drun_end ?_
    refine run_driveS 80 ?_
    simp only [go_sem]
    rcases Decidable.em (¬ a3 = b3) with h3 | h3'
    · refine run_cond_t (by simp only [go_sem, decide_eq_false h3]) ?_
      refine run_driveS 80 ?_
      simp only [go_sem]
      refine run_drw (by kernel_rfl) ?_
      refine drun_drive 40 (p := (_, _)) ?_
      simp only [go_sem, v59_4, lt_nat]
      refine drun_end ?_
      refine run_driveS 80 ?_
      simp only [go_sem]
      refine run_ret_drop Tryd.func59 res59 [] (.bool (decide (A < B))) [] rfl (by simp) trivial (by simp [uniq]) ?_ ⟨rfl, rfl⟩
      have e : decide (a3 < b3) = decide (A < B) := by
        rw [decide_eq_decide]
        omega
      simp only [go_sem, rr59, ren, e]
    obtain rfl := Decidable.not_not.1 h3'
    refine run_cond_f (by simp only [go_sem]) ?_
    refine run_driveS 80 ?_
    simp only [go_sem, v59_6]
    refine run_loop_eq v59_7.eq_1 ?_
    refine run_driveS 80 ?_
    simp only [go_sem, v59_2, v59_5]
    refine run_drw (by kernel_rfl) ?_
    refine drun_drive 40 (p := (_, _)) ?_
    simp only [go_sem, v59_3]
    refine drun_end ?_
    refine run_driveS 80 ?_
    simp only [go_sem]
    rcases Decidable.em (¬ a2 = b2) with h2 | h2'
    · refine run_cond_t (by simp only [go_sem, decide_eq_false h2]) ?_
      refine run_driveS 80 ?_
      simp only [go_sem]
      refine run_drw (by kernel_rfl) ?_
      refine drun_drive 40 (p := (_, _)) ?_
      simp only [go_sem, v59_4, lt_nat]
      refine drun_end ?_
      refine run_driveS 80 ?_
      simp only [go_sem]
      refine run_ret_drop Tryd.func59 res59 [] (.bool (decide (A < B))) [] rfl (by simp) trivial (by simp [uniq]) ?_ ⟨rfl, rfl⟩
      have e : decide (a2 < b2) = decide (A < B) := by
        rw [decide_eq_decide]
        omega
      simp only [go_sem, rr59, ren, e]
    obtain rfl := Decidable.not_not.1 h2'
    refine run_cond_f (by simp only [go_sem]) ?_
    refine run_driveS 80 ?_
    simp only [go_sem, v59_6]
    refine run_loop_eq v59_7.eq_1 ?_
    refine run_driveS 80 ?_
    simp only [go_sem, v59_2, v59_5]
    refine run_drw (by kernel_rfl) ?_
    refine drun_drive 40 (p := (_, _)) ?_
    simp only [go_sem, v59_3]
    refine drun_end ?_
    refine run_driveS 80 ?_
    simp only [go_sem]
    rcases Decidable.em (¬ a1 = b1) with h1 | h1'
    · refine run_cond_t (by simp only [go_sem, decide_eq_false h1]) ?_
      refine run_driveS 80 ?_
      simp only [go_sem]
      refine run_drw (by kernel_rfl) ?_
      refine drun_drive 40 (p := (_, _)) ?_
      simp only [go_sem, v59_4, lt_nat]
      refine drun_end ?_
      refine run_driveS 80 ?_
      simp only [go_sem]
      refine run_ret_drop Tryd.func59 res59 [] (.bool (decide (A < B))) [] rfl (by simp) trivial (by simp [uniq]) ?_ ⟨rfl, rfl⟩
      have e : decide (a1 < b1) = decide (A < B) := by
        rw [decide_eq_decide]
        omega
      simp only [go_sem, rr59, ren, e]
    obtain rfl := Decidable.not_not.1 h1'
    refine run_cond_f (by simp only [go_sem]) ?_
    refine run_driveS 80 ?_
    simp only [go_sem, v59_6]
    refine run_loop_eq v59_7.eq_1 ?_
    refine run_driveS 80 ?_
    simp only [go_sem, v59_2, v59_5]
    refine run_drw (by kernel_rfl) ?_
    refine drun_drive 40 (p := (_, _)) ?_
    simp only [go_sem, v59_3]
    refine drun_end ?_
    refine run_driveS 80 ?_
    simp only [go_sem]
    rcases Decidable.em (¬ a0 = b0) with h0 | h0'
    · refine run_cond_t (by simp only [go_sem, decide_eq_false h0]) ?_
      refine run_driveS 80 ?_
      simp only [go_sem]
      refine run_drw (by kernel_rfl) ?_
      refine drun_drive 40 (p := (_, _)) ?_
      simp only [go_sem, v59_4, lt_nat]
      refine drun_end ?_
      refine run_driveS 80 ?_
      simp only [go_sem]
      refine run_ret_drop Tryd.func59 res59 [] (.bool (decide (A < B))) [] rfl (by simp) trivial (by simp [uniq]) ?_ ⟨rfl, rfl⟩
      have e : decide (a0 < b0) = decide (A < B) := by
        rw [decide_eq_decide]
        omega
      simp only [go_sem, rr59, ren, e]
    obtain rfl := Decidable.not_not.1 h0'
    refine run_cond_f (by simp only [go_sem]) ?_
    refine run_driveS 80 ?_
    simp only [go_sem, v59_6]
    refine run_loop_eq v59_7.eq_1 ?_
    refine run_driveS 80 ?_
    simp only [go_sem, v59_2, v59_5]
    refine run_exit rfl ?_
    refine run_driveS 80 ?_
    simp only [go_sem, v59_9]
    refine run_ret_drop Tryd.func59 res59 [] (.bool (decide (A < B))) [] rfl (by simp) trivial (by simp [uniq]) ?_ ⟨rfl, rfl⟩
    have e : decide (A < B) = false := decide_eq_false (by omega)
    simp only [go_sem, rr59, ren, e]
  · rintro v g rfl; rfl
  · rintro v rfl; exact hQ
theorem sub_law (a b c : Nat) (hb : b < 18446744073709551616) (hc : c ≤ 1) (ha : a < 18446744073709551616) : ∃ t c' : Nat, t < 18446744073709551616 ∧ c' ≤ 1 ∧ a + 18446744073709551616 * c' = b + c + t ∧ s64 (s64 a b) c = t ∧ selN (decide ((s64 a b : Nat) < c)) 1 (selN (decide (a < b)) 1 0) = c' := by
  refine ⟨_, _, ?_, ?_, ?_, rfl, rfl⟩
  · unfold s64; omega
  · unfold selN s64; simp only [decide_eq_true_eq]; (repeat' split) <;> omega
  · unfold selN s64
    simp only [decide_eq_true_eq]
    (repeat' split) <;> omega
theorem add_law (a b c : Nat) (hb : b < 18446744073709551616) (hc : c ≤ 1) (ha : a < 18446744073709551616) : ∃ t c' : Nat, t < 18446744073709551616 ∧ c' ≤ 1 ∧ a + b + c = 18446744073709551616 * c' + t ∧ w64 (w64 (a + b) + c) = t ∧ selN (decide ((w64 (w64 (a + b) + c)) < w64 (a + b))) 1 (selN (decide (w64 (a + b) < a)) 1 0) = c' := by
  refine ⟨_, _, ?_, ?_, ?_, rfl, rfl⟩
  · unfold w64; omega
  · unfold selN w64; simp only [decide_eq_true_eq]; (repeat' split) <;> omega
  · unfold selN w64
    simp only [decide_eq_true_eq]
    (repeat' split) <;> omega
theorem ref_minus0 (A B : Nat) (hA : A < 115792089237316195423570985008687907853269984665640564039457584007913129639936) (hB : B < 115792089237316195423570985008687907853269984665640564039457584007913129639936) (Q : V → Heap → Prop)
    (hQ : ∀ D b : Nat, D < 115792089237316195423570985008687907853269984665640564039457584007913129639936 → b ≤ 1 → A + 115792089237316195423570985008687907853269984665640564039457584007913129639936 * b = B + D → Q (.tup [lw D, u b]) []) : VCall Tryd.prog G 77 [lw A, lw B] [] Q := by
  refine vcall_body Tryd.func77 nm77 code77 nt77 ?_
  obtain ⟨a0, a1, a2, a3, ha0, ha1, ha2, ha3, ea, eA⟩ := limbs A
  obtain ⟨b0, b1, b2, b3, hb0, hb1, hb2, hb3, eb, eB⟩ := limbs B
  rw [ea, eb]
  refine run_driveS 80 ?_
  simp only [go_sem, v77, v77_0, v77_1, v77_2, v77_3, v77_17]
  obtain ⟨d0, c0, hd0, hc0, he0, p0, q0⟩ := sub_law a0 b0 0 hb0 (by decide) ha0
  refine run_loop_eq v77_16.eq_1 ?_
  refine run_driveS 80 ?_
  simp only [go_sem, v77_4, v77_14]
  refine run_drw (by kernel_rfl) ?_
  refine drun_drive 40 (p := (_, _)) ?_
  simp only [go_sem, v77_5]
  refine drun_end ?_
  refine run_driveS 80 ?_
  simp only [go_sem, v77_6]
  refine run_drw (by kernel_rfl) ?_
  refine drun_drive 40 (p := (_, _)) ?_
  simp only [go_sem, v77_7]
  refine drun_end ?_
  refine run_driveS 80 ?_
  simp only [go_sem]
  refine run_cond_mov rfl ?_
  simp only [go_sem, v77_8]
  refine run_driveS 80 ?_
  simp only [go_sem, v77_9, v77_10, p0]
  refine run_cond_mov rfl ?_
  simp only [go_sem, v77_11, q0]
  refine run_driveS 80 ?_
  simp only [go_sem, v77_12, v77_13, v77_15]
  obtain ⟨d1, c1, hd1, hc1, he1, p1, q1⟩ := sub_law a1 b1 c0 hb1 hc0 ha1
  refine run_loop_eq v77_16.eq_1 ?_
  refine run_driveS 80 ?_
  simp only [go_sem, v77_4, v77_14]
  refine run_drw (by kernel_rfl) ?_
  refine drun_drive 40 (p := (_, _)) ?_
  simp only [go_sem, v77_5]
  refine drun_end ?_
  refine run_driveS 80 ?_
  simp only [go_sem, v77_6]
  refine run_drw (by kernel_rfl) ?_
  refine drun_drive 40 (p := (_, _)) ?_
  simp only [go_sem, v77_7]
  refine drun_end ?_
  refine run_driveS 80 ?_
  simp only [go_sem]
  refine run_cond_mov rfl ?_
  simp only [go_sem, v77_8]
  refine run_driveS 80 ?_
  simp only [go_sem, v77_9, v77_10, p1]
  refine run_cond_mov rfl ?_
  simp only [go_sem, v77_11, q1]
  refine run_driveS 80 ?_
  simp only [go_sem, v77_12, v77_13, v77_15]
  obtain ⟨d2, c2, hd2, hc2, he2, p2, q2⟩ := sub_law a2 b2 c1 hb2 hc1 ha2
  refine run_loop_eq v77_16.eq_1 ?_
  refine run_driveS 80 ?_
  simp only [go_sem, v77_4, v77_14]
  refine run_drw (by kernel_rfl) ?_
  refine drun_drive 40 (p := (_, _)) ?_
  simp only [go_sem, v77_5]
  refine drun_end ?_
  refine run_driveS 80 ?_
  simp only [go_sem, v77_6]
  refine run_drw (by kernel_rfl) ?_
  refine drun_drive 40 (p := (_, _)) ?_
  simp only [go_sem, v77_7]
  refine drun_end ?_
  refine run_driveS 80 ?_
  simp only [go_sem]
  refine run_cond_mov rfl ?_
  simp only [go_sem, v77_8]
  refine run_driveS 80 ?_
  simp only [go_sem, v77_9, v77_10, p2]
  refine run_cond_mov rfl ?_
  simp only [go_sem, v77_11, q2]
  refine run_driveS 80 ?_
  simp only [go_sem, v77_12, v77_13, v77_15]
  obtain ⟨d3, c3, hd3, hc3, he3, p3, q3⟩ := sub_law a3 b3 c2 hb3 hc2 ha3
  refine run_loop_eq v77_16.eq_1 ?_
  refine run_driveS 80 ?_
  simp only [go_sem, v77_4, v77_14]
  refine run_drw (by kernel_rfl) ?_
  refine drun_drive 40 (p := (_, _)) ?_
  simp only [go_sem, v77_5]
  refine drun_end ?_
  refine run_driveS 80 ?_
  simp only [go_sem, v77_6]
  refine run_drw (by kernel_rfl) ?_
  refine drun_drive 40 (p := (_, _)) ?_
  simp only [go_sem, v77_7]
  refine drun_end ?_
  refine run_driveS 80 ?_
  simp only [go_sem]
  refine run_cond_mov rfl ?_
  simp only [go_sem, v77_8]
  refine run_driveS 80 ?_
  simp only [go_sem, v77_9, v77_10, p3]
  refine run_cond_mov rfl ?_
  simp only [go_sem, v77_11, q3]
  refine run_driveS 80 ?_
  simp only [go_sem, v77_12, v77_13, v77_15]
  refine run_loop_eq v77_16.eq_1 ?_
  refine run_driveS 80 ?_
  simp only [go_sem, v77_4]
  refine run_exit rfl ?_
  refine run_driveS 80 ?_
  simp only [go_sem, v77_18]
  refine run_ret_drop Tryd.func77 res77 [] (.tup [lw (d0 + 18446744073709551616 * d1 + 340282366920938463463374607431768211456 * d2 + 6277101735386680763835789423207666416102355444464034512896 * d3), u c3]) [] rfl (by simp) trivial (by simp [uniq]) ?_ (hQ _ _ ?_ hc3 ?_)
  · rw [lw_of hd0 hd1 hd2 hd3]
    simp only [go_sem, rr77, ren, rens, u]
  · omega
  · rw [eA hA, eB hB]; omega
theorem ref_minus (A B : Nat) (hA : A < 115792089237316195423570985008687907853269984665640564039457584007913129639936) (hB : B < 115792089237316195423570985008687907853269984665640564039457584007913129639936) {h : Heap} {R : V → Heap → Prop}
    (hQ : ∀ D b : Nat, D < 115792089237316195423570985008687907853269984665640564039457584007913129639936 → b ≤ 1 → A + 115792089237316195423570985008687907853269984665640564039457584007913129639936 * b = B + D → R (.tup [lw D, .int .u64 (b : Int)]) h) : VCall Tryd.prog G 77 [lw A, lw B] h R := by
  refine vcall_plain (Q := fun v => ∃ D b : Nat, D < 115792089237316195423570985008687907853269984665640564039457584007913129639936 ∧ b ≤ 1 ∧ A + 115792089237316195423570985008687907853269984665640564039457584007913129639936 * b = B + D ∧ v = .tup [lw D, u b]) (ref_minus0 A B hA hB _ fun D b h1 h2 h3 => ⟨⟨D, b, h1, h2, h3, rfl⟩, rfl⟩) (fun g => by simp only [rens, lw_plain]) ?_ ?_
  · rintro v g ⟨D, b, _, _, _, rfl⟩; simp only [ren, rens, lw_plain, u]
  · rintro v ⟨D, b, h1, h2, h3, rfl⟩; exact hQ D b h1 h2 h3
theorem ref_plus0 (A B : Nat) (hA : A < 115792089237316195423570985008687907853269984665640564039457584007913129639936) (hB : B < 115792089237316195423570985008687907853269984665640564039457584007913129639936) (Q : V → Heap → Prop)
    (hQ : ∀ D b : Nat, D < 115792089237316195423570985008687907853269984665640564039457584007913129639936 → b ≤ 1 → A + B = 115792089237316195423570985008687907853269984665640564039457584007913129639936 * b + D → Q (.tup [lw D, u b]) []) : VCall Tryd.prog G 78 [lw A, lw B] [] Q := by
  refine vcall_body Tryd.func78 nm78 code78 nt78 ?_
  obtain ⟨a0, a1, a2, a3, ha0, ha1, ha2, ha3, ea, eA⟩ := limbs A
  obtain ⟨b0, b1, b2, b3, hb0, hb1, hb2, hb3, eb, eB⟩ := limbs B
  rw [ea, eb]
  refine run_driveS 80 ?_
  simp only [go_sem, v78, v78_0, v78_1, v78_2, v78_3, v78_17]
  obtain ⟨d0, c0, hd0, hc0, he0, p0, q0⟩ := add_law a0 b0 0 hb0 (by decide) ha0
  rw [Nat.add_zero (w64 (a0 + b0))] at p0 q0
  rw [p0] at q0
  refine run_loop_eq v78_16.eq_1 ?_
  refine run_driveS 80 ?_
  simp only [go_sem, v78_4, v78_14]
  refine run_drw (by kernel_rfl) ?_
  refine drun_drive 40 (p := (_, _)) ?_
  simp only [go_sem, v78_5]
  refine drun_end ?_
  refine run_driveS 80 ?_
  simp only [go_sem, v78_6, v78_7]
  refine run_cond_mov rfl ?_
  simp only [go_sem, v78_8]
  refine run_driveS 80 ?_
  simp only [go_sem, v78_9, v78_10, p0]
  refine run_cond_mov rfl ?_
  simp only [go_sem, v78_11, q0]
  refine run_driveS 80 ?_
  simp only [go_sem, v78_12, v78_13, v78_15]
  obtain ⟨d1, c1, hd1, hc1, he1, p1, q1⟩ := add_law a1 b1 c0 hb1 hc0 ha1
  rw [p1] at q1
  refine run_loop_eq v78_16.eq_1 ?_
  refine run_driveS 80 ?_
  simp only [go_sem, v78_4, v78_14]
  refine run_drw (by kernel_rfl) ?_
  refine drun_drive 40 (p := (_, _)) ?_
  simp only [go_sem, v78_5]
  refine drun_end ?_
  refine run_driveS 80 ?_
  simp only [go_sem, v78_6, v78_7]
  refine run_cond_mov rfl ?_
  simp only [go_sem, v78_8]
  refine run_driveS 80 ?_
  simp only [go_sem, v78_9, v78_10, p1]
  refine run_cond_mov rfl ?_
  simp only [go_sem, v78_11, q1]
  refine run_driveS 80 ?_
  simp only [go_sem, v78_12, v78_13, v78_15]
  obtain ⟨d2, c2, hd2, hc2, he2, p2, q2⟩ := add_law a2 b2 c1 hb2 hc1 ha2
  rw [p2] at q2
  refine run_loop_eq v78_16.eq_1 ?_
  refine run_driveS 80 ?_
  simp only [go_sem, v78_4, v78_14]
  refine run_drw (by kernel_rfl) ?_
  refine drun_drive 40 (p := (_, _)) ?_
  simp only [go_sem, v78_5]
  refine drun_end ?_
  refine run_driveS 80 ?_
  simp only [go_sem, v78_6, v78_7]
  refine run_cond_mov rfl ?_
  simp only [go_sem, v78_8]
  refine run_driveS 80 ?_
  simp only [go_sem, v78_9, v78_10, p2]
  refine run_cond_mov rfl ?_
  simp only [go_sem, v78_11, q2]
  refine run_driveS 80 ?_
  simp only [go_sem, v78_12, v78_13, v78_15]
  obtain ⟨d3, c3, hd3, hc3, he3, p3, q3⟩ := add_law a3 b3 c2 hb3 hc2 ha3
  rw [p3] at q3
  refine run_loop_eq v78_16.eq_1 ?_
  refine run_driveS 80 ?_
  simp only [go_sem, v78_4, v78_14]
  refine run_drw (by kernel_rfl) ?_
  refine drun_drive 40 (p := (_, _)) ?_
  simp only [go_sem, v78_5]
  refine drun_end ?_
  refine run_driveS 80 ?_
  simp only [go_sem, v78_6, v78_7]
  refine run_cond_mov rfl ?_
  simp only [go_sem, v78_8]
  refine run_driveS 80 ?_
  simp only [go_sem, v78_9, v78_10, p3]
  refine run_cond_mov rfl ?_
  simp only [go_sem, v78_11, q3]
  refine run_driveS 80 ?_
  simp only [go_sem, v78_12, v78_13, v78_15]
  refine run_loop_eq v78_16.eq_1 ?_
  refine run_driveS 80 ?_
  simp only [go_sem, v78_4]
  refine run_exit rfl ?_
  refine run_driveS 80 ?_
  simp only [go_sem, v78_18]
  refine run_ret_drop Tryd.func78 res78 [] (.tup [lw (d0 + 18446744073709551616 * d1 + 340282366920938463463374607431768211456 * d2 + 6277101735386680763835789423207666416102355444464034512896 * d3), u c3]) [] rfl (by simp) trivial (by simp [uniq]) ?_ (hQ _ _ ?_ hc3 ?_)
  · rw [lw_of hd0 hd1 hd2 hd3]
    simp only [go_sem, rr78, ren, rens, u]
  · omega
  · rw [eA hA, eB hB]; omega
theorem ref_plus (A B : Nat) (hA : A < 115792089237316195423570985008687907853269984665640564039457584007913129639936) (hB : B < 115792089237316195423570985008687907853269984665640564039457584007913129639936) {h : Heap} {R : V → Heap → Prop}
    (hQ : ∀ D b : Nat, D < 115792089237316195423570985008687907853269984665640564039457584007913129639936 → b ≤ 1 → A + B = 115792089237316195423570985008687907853269984665640564039457584007913129639936 * b + D → R (.tup [lw D, .int .u64 (b : Int)]) h) : VCall Tryd.prog G 78 [lw A, lw B] h R := by
  refine vcall_plain (Q := fun v => ∃ D b : Nat, D < 115792089237316195423570985008687907853269984665640564039457584007913129639936 ∧ b ≤ 1 ∧ A + B = 115792089237316195423570985008687907853269984665640564039457584007913129639936 * b + D ∧ v = .tup [lw D, u b]) (ref_plus0 A B hA hB _ fun D b h1 h2 h3 => ⟨⟨D, b, h1, h2, h3, rfl⟩, rfl⟩) (fun g => by simp only [rens, lw_plain]) ?_ ?_
  · rintro v g ⟨D, b, _, _, _, rfl⟩; simp only [ren, rens, lw_plain, u]
  · rintro v ⟨D, b, h1, h2, h3, rfl⟩; exact hQ D b h1 h2 h3
end Go.Vs.Tryd
namespace Go.Vs.Tryd
open Go.Proofs
variable {G : Nat → List V}
set_option linter.unusedSimpArgs false
attribute [local go_sem] lenO_nils lenO_sl sliceAtV Int.sub_zero List.length_append List.all_append ge_iff_le gt_iff_lt Int.natCast_nonneg Int.toNat_natCast Nat.mul_one b_and_ll b_shr_ll b_mul_ll b_add_ll b_or_ll b_shl_ll pick_ll pick_lc pick_bb driveS stopV Option.isSome_some Option.isSome_none Kind.m Kind.w Kind.g look_ro look_rw look_grow drive stepV exo expo evs fillV isNil nilKind eqV eqL optA optM sliceAtV ev kn ldc stc splice appV srcV lenV setd wantV exitV rvs rv one List.length_cons List.length_nil List.cons_append List.nil_append List.append_nil List.replicate List.getD_cons_zero List.getD_cons_succ List.set_cons_zero List.set_cons_succ List.getElem?_cons_zero List.getElem?_cons_succ List.getElem?_nil List.take_succ_cons List.take_zero List.take_nil List.drop_succ_cons List.drop_zero List.drop_nil List.all_cons List.all_nil List.any_cons List.any_nil Bool.and_true Bool.true_and Bool.and_self Option.map_some Option.map_none Option.bind_some Option.some.injEq Nat.add_zero Nat.zero_add Int.toNat_zero Int.toNat_one Int.zero_add Int.add_zero if_true if_false ite_true ite_false and_true true_and and_self ne_eq not_false_eq_true not_true_eq_false decide_true decide_false Bool.false_eq_true Bool.not_true Bool.not_false beq_self_eq_true BEq.rfl Bool.not_eq_true Nat.le_refl Int.le_refl Nat.zero_le List.foldl List.map_cons List.map_nil Prod.mk.injEq Int.cast_ofNat_Int Int.zero_le_ofNat b_add_cc b_add_cl b_add_lc b_mul_cc b_mul_cl b_mul_lc b_sub_cc b_sub_cl b_sub_lc b_and_cc b_and_cl b_and_lc b_or_cc b_or_cl b_or_lc b_xor_cc b_xor_cl b_xor_lc b_andNot_cc b_andNot_cl b_andNot_lc b_shr_cc b_shr_cl b_shr_lc b_shl_cc b_shl_cl b_shl_lc b_lss b_leq b_gtr b_geq b_add_i b_sub_i b_mul_i beq_cc beq_cl beq_lc beq_ll b_quo_i b_rem_i neg_u64 wrap_i64 driveD stepD idsAt idOf maskH_nil restore_nil restore_mask List.filterMap_nil List.filterMap_cons VOp.looks VOp.makes exA cells_agg cells_int cells_bool cells_str cells_nilp cells_ptr cells_glob cells_nils cells_sl cells_nilf cells_fn cells_nili cells_ifc known_agg known_tup known_int known_bool known_str known_nilp known_ptr known_glob known_nils known_sl known_nilf known_fn known_nili known_ifc known_unk one_agg one_tup one_int one_bool one_str one_nilp one_ptr one_glob one_nils one_sl one_nilf one_fn one_nili one_ifc asK_int asN_int asB_bool asS_str asG_agg asT_tup
section
attribute [local go_sem ↓] lc_len lc_take lc_drop lc_known lc_one lc_rens lc_cells lw_known lw_agg lw_asG
set_option maxRecDepth 100000
set_option maxHeartbeats 1000000
theorem lc4 (f : Nat → Nat) (j : Nat) : (lc (f j)).length = 4 := rfl
theorem lcr (f : Nat → Nat) (g : Nat → Nat) (j : Nat) : rens g (lc (f j)) = lc (f j) := lc_rens _ g
def scs (n : Nat) (f : Nat → Nat) : List V := row n fun j => lc (f j)
theorem scs_len (n : Nat) (f : Nat → Nat) : (scs n f).length = n * 4 := row_len (lc4 f) n
theorem scs_get' (n : Nat) (f : Nat → Nat) {i : Nat} (h : i < n) : ((scs n f).drop (i * 4)).take 4 = lc (f i) := row_get' (lc4 f) h
theorem scs_set (n : Nat) (f f' : Nat → Nat) {i v : Nat} (h : i < n) (hv : f' i = v) (hf : ∀ j, j < n → j ≠ i → f j = f' j) : (scs n f).take (i * 4) ++ lc v ++ (scs n f).drop (i * 4 + 4) = scs n f' := by
  show splice (scs n f) (i * 4) (lc v) = _
  unfold scs
  rw [row_set (lc4 f) rfl h]
  refine row_congr fun j hj => ?_
  by_cases e : j = i
  · subst e; rw [upd_same, hv]
  · rw [upd_ne e, hf j hj e]
theorem scs_congr {n : Nat} {f f' : Nat → Nat} (h : ∀ j, j < n → f j = f' j) : scs n f = scs n f' := row_congr fun j hj => by rw [h j hj]
theorem scs_zero (n : Nat) : (List.replicate n [V.int .u64 (nl 0), V.int .u64 (nl 0), V.int .u64 (nl 0), V.int .u64 (nl 0)]).flatten = scs n fun _ => 0 := (row_zero _ n).trans (row_congr fun _ _ => lc_zero)
theorem scs_known (n : Nat) (f : Nat → Nat) : (scs n f).all V.known = true := row_all (fun j => lc_known _) n
theorem scs_one (n : Nat) (f : Nat → Nat) : (scs n f).all V.one = true := row_all (fun j => lc_one _) n
theorem scs_rens (n : Nat) (f g : Nat → Nat) : rens g (scs n f) = scs n f := row_rens (lcr f g) n
theorem scs_fit (n : Nat) (f g : Nat → Nat) : fit g (scs n f) (scs n f) := fit_same (scs_rens n f g)
end
section
attribute [local go_sem ↓] lc_len lc_take lc_drop lc_known lc_one lc_rens lc_cells lw_known lw_agg lw_asG
attribute [local go_sem] lt_nat lt_natl lt_lnat lt_ll
set_option maxRecDepth 100000
set_option maxHeartbeats 1000000
theorem lc_of {d0 d1 d2 d3 : Nat} (h0 : d0 < 18446744073709551616) (h1 : d1 < 18446744073709551616) (h2 : d2 < 18446744073709551616) (h3 : d3 < 18446744073709551616) :
    [V.int .u64 (d0 : Int), .int .u64 (d1 : Int), .int .u64 (d2 : Int), .int .u64 (d3 : Int)] = lc (d0 + 18446744073709551616 * d1 + 340282366920938463463374607431768211456 * d2 + 6277101735386680763835789423207666416102355444464034512896 * d3) := by
  have := lw_of h0 h1 h2 h3
  unfold lw at this
  injection this with this
  exact this.symm
theorem or_add (i a b : Nat) (hb : b < 2 ^ i) (hs : 2 ^ i * a + b < 18446744073709551616) : o64 (2 ^ i * a) b = 2 ^ i * a + b := by
  unfold o64
  have h2 : b ≤ 2 ^ i * a + b := Nat.le_add_left _ _
  have h1 : 2 ^ i * a ≤ 2 ^ i * a + b := Nat.le_add_right _ _
  rw [Nat.mod_eq_of_lt (by omega), Nat.mod_eq_of_lt (by omega), Nat.two_pow_add_eq_or_of_lt hb]
theorem o64_comm (a b : Nat) : o64 a b = o64 b a := by unfold o64; rw [Nat.or_comm]
end
end Go.Vs.Tryd
namespace Go.Vs.Tryd
open Go.Proofs
variable {G : Nat → List V}
set_option linter.unusedSimpArgs false
attribute [local go_sem] lenO_nils lenO_sl sliceAtV Int.sub_zero List.length_append List.all_append ge_iff_le gt_iff_lt Int.natCast_nonneg Int.toNat_natCast Nat.mul_one b_and_ll b_shr_ll b_mul_ll b_add_ll b_or_ll b_shl_ll pick_ll pick_lc pick_bb driveS stopV Option.isSome_some Option.isSome_none Kind.m Kind.w Kind.g look_ro look_rw look_grow drive stepV exo expo evs fillV isNil nilKind eqV eqL optA optM sliceAtV ev kn ldc stc splice appV srcV lenV setd wantV exitV rvs rv one List.length_cons List.length_nil List.cons_append List.nil_append List.append_nil List.replicate List.getD_cons_zero List.getD_cons_succ List.set_cons_zero List.set_cons_succ List.getElem?_cons_zero List.getElem?_cons_succ List.getElem?_nil List.take_succ_cons List.take_zero List.take_nil List.drop_succ_cons List.drop_zero List.drop_nil List.all_cons List.all_nil List.any_cons List.any_nil Bool.and_true Bool.true_and Bool.and_self Option.map_some Option.map_none Option.bind_some Option.some.injEq Nat.add_zero Nat.zero_add Int.toNat_zero Int.toNat_one Int.zero_add Int.add_zero if_true if_false ite_true ite_false and_true true_and and_self ne_eq not_false_eq_true not_true_eq_false decide_true decide_false Bool.false_eq_true Bool.not_true Bool.not_false beq_self_eq_true BEq.rfl Bool.not_eq_true Nat.le_refl Int.le_refl Nat.zero_le List.foldl List.map_cons List.map_nil Prod.mk.injEq Int.cast_ofNat_Int Int.zero_le_ofNat b_add_cc b_add_cl b_add_lc b_mul_cc b_mul_cl b_mul_lc b_sub_cc b_sub_cl b_sub_lc b_and_cc b_and_cl b_and_lc b_or_cc b_or_cl b_or_lc b_xor_cc b_xor_cl b_xor_lc b_andNot_cc b_andNot_cl b_andNot_lc b_shr_cc b_shr_cl b_shr_lc b_shl_cc b_shl_cl b_shl_lc b_lss b_leq b_gtr b_geq b_add_i b_sub_i b_mul_i beq_cc beq_cl beq_lc beq_ll b_quo_i b_rem_i neg_u64 wrap_i64 driveD stepD idsAt idOf maskH_nil restore_nil restore_mask List.filterMap_nil List.filterMap_cons VOp.looks VOp.makes exA cells_agg cells_int cells_bool cells_str cells_nilp cells_ptr cells_glob cells_nils cells_sl cells_nilf cells_fn cells_nili cells_ifc known_agg known_tup known_int known_bool known_str known_nilp known_ptr known_glob known_nils known_sl known_nilf known_fn known_nili known_ifc known_unk one_agg one_tup one_int one_bool one_str one_nilp one_ptr one_glob one_nils one_sl one_nilf one_fn one_nili one_ifc asK_int asN_int asB_bool asS_str asG_agg asT_tup
attribute [local go_sem_proc] Nat.reduceAdd Nat.reduceSub Nat.reduceLeDiff Nat.reduceMul Nat.reduceLT Nat.reduceEqDiff Int.reduceLT Int.reduceLE Int.reduceAdd Int.reduceSub Int.reduceMul Int.reduceToNat reduceIte reduceCtorEq Nat.reduceBEq
section
attribute [local go_sem ↓] lc_len lc_take lc_drop lc_known lc_one lc_rens lc_cells lw_known lw_agg lw_asG
attribute [local go_sem] lt_nat lt_natl lt_lnat lt_ll
set_option maxRecDepth 100000
set_option maxHeartbeats 1000000
theorem shl16 (x w : Nat) (hx : x < 18446744073709551616) (hw : w < 65536) : ∃ y, o64 (l64 x 16) w = y ∧ y < 18446744073709551616 ∧ y = x * 65536 % 18446744073709551616 + w := by
  refine ⟨_, rfl, ?_⟩
  have e : l64 x 16 = 2 ^ 16 * (x % 281474976710656) := by
    show x * 65536 % 18446744073709551616 = 65536 * (x % 281474976710656)
    omega
  rw [e, or_add 16 _ _ hw (by omega)]
  omega
theorem shr48 (x : Nat) (hx : x < 18446744073709551616) : r64 x 48 = x / 281474976710656 := rfl
theorem and60 (x : Nat) (hx : x < 18446744073709551616) : a64 x 1152921504606846975 = x % 1152921504606846976 := by
  unfold a64
  rw [show 1152921504606846975 % 18446744073709551616 = 2 ^ 60 - 1 from rfl, Nat.and_two_pow_sub_one_eq_mod, Nat.mod_eq_of_lt hx]
theorem and32 (x : Nat) (hx : x < 18446744073709551616) : a64 x 4294967295 = x % 4294967296 := by
  unfold a64
  rw [show 4294967295 % 18446744073709551616 = 2 ^ 32 - 1 from rfl, Nat.and_two_pow_sub_one_eq_mod, Nat.mod_eq_of_lt hx]
theorem piece (m q c : Nat) (hm : m < 4294967296) (hq : q < 262144) (hc : c < 4294967296) : ∃ p c', a64 (w64 (w64 (m * q) + c)) 4294967295 = p ∧ r64 (w64 (w64 (m * q) + c)) 32 = c' ∧ p < 4294967296 ∧ c' < 4294967296 ∧ m * q + c = p + 4294967296 * c' := by
  have h : m * q ≤ 4294967295 * 262143 := Nat.mul_le_mul (by omega) (by omega)
  refine ⟨_, _, rfl, rfl, ?_⟩
  have e : w64 (w64 (m * q) + c) = m * q + c := by unfold w64; omega
  rw [e, and32 _ (by omega)]
  have e2 : r64 (m * q + c) 32 = (m * q + c) / 4294967296 := rfl
  rw [e2]
  omega
theorem or32 (x y : Nat) (hx : x < 4294967296) (hy : y < 4294967296) : ∃ z, o64 x (l64 y 32) = z ∧ z < 18446744073709551616 ∧ z = x + 4294967296 * y := by
  refine ⟨_, rfl, ?_⟩
  have e : l64 y 32 = 2 ^ 32 * y := by
    show y * 4294967296 % 18446744073709551616 = 4294967296 * y
    omega
  rw [e, o64_comm, or_add 32 _ _ hx (by omega)]
  omega
theorem lc_ell : lc ell = [.int .u64 (nl 6346243789798364141), .int .u64 (nl 1503914060200516822), .int .u64 (nl 0), .int .u64 (nl 1152921504606846976)] := rfl
theorem step_num {R w q low qc D1 b1 : Nat} (hR : R < ell) (hw : w < 65536) (h1 : 65536 * R + w = q * 7237005577332262213973186563042994240829374041602535252466099000494570602496 + low) (hlow : low < 7237005577332262213973186563042994240829374041602535252466099000494570602496) (h2 : qc = q * 27742317777372353535851937790883648493) (hq : q < 262144) (h3 : low + 115792089237316195423570985008687907853269984665640564039457584007913129639936 * b1 = qc + D1) (hD : D1 < 115792089237316195423570985008687907853269984665640564039457584007913129639936) (hb : b1 ≤ 1) :
    (b1 = 0 → D1 < ell → (65536 * R + w) % ell = D1) ∧ (b1 = 0 → ¬ D1 < ell → False) ∧ (b1 = 1 → ∃ D2, D1 + ell = 115792089237316195423570985008687907853269984665640564039457584007913129639936 + D2 ∧ D2 < ell ∧ (65536 * R + w) % ell = D2) := by
  have hN : 65536 * R + w + qc = q * ell + low := by
    rw [h1, h2]
    have : q * ell = q * 7237005577332262213973186563042994240829374041602535252466099000494570602496 + q * 27742317777372353535851937790883648493 := by rw [← Nat.mul_add]; rfl
    omega
  have he : ell = 7237005577332262213973186563042994240857116359379907606001950938285454250989 := rfl
  refine ⟨fun e h => ?_, fun e h => ?_, fun e => ?_⟩
  · subst e
    have : 65536 * R + w = D1 + ell * q := by rw [Nat.mul_comm ell q]; omega
    rw [this, Nat.add_mul_mod_self_left, Nat.mod_eq_of_lt h]
  · subst e; omega
  · subst e
    have hqc : qc < 262144 * 27742317777372353535851937790883648493 := by rw [h2]; omega
    have hq1 : 1 ≤ q := by
      rcases Nat.eq_zero_or_pos q with e | e
      · rw [e, Nat.zero_mul] at h2; omega
      · exact e
    refine ⟨D1 + ell - 115792089237316195423570985008687907853269984665640564039457584007913129639936, by omega, by omega, ?_⟩
    obtain ⟨p, rfl⟩ : ∃ p, q = p + 1 := ⟨q - 1, by omega⟩
    have : 65536 * R + w = D1 + ell - 115792089237316195423570985008687907853269984665640564039457584007913129639936 + ell * p := by rw [Nat.mul_comm ell p]; rw [Nat.add_mul, Nat.one_mul] at hN; omega
    rw [this, Nat.add_mul_mod_self_left, Nat.mod_eq_of_lt (by omega)]
theorem step_tail (N low qc : Nat) (hlow : low < 115792089237316195423570985008687907853269984665640564039457584007913129639936) (hqc : qc < 115792089237316195423570985008687907853269984665640564039457584007913129639936)
    (hs : ∀ D1 b1, low + 115792089237316195423570985008687907853269984665640564039457584007913129639936 * b1 = qc + D1 → D1 < 115792089237316195423570985008687907853269984665640564039457584007913129639936 → b1 ≤ 1 → (b1 = 0 → D1 < ell → N % ell = D1) ∧ (b1 = 0 → ¬ D1 < ell → False) ∧ (b1 = 1 → ∃ D2, D1 + ell = 115792089237316195423570985008687907853269984665640564039457584007913129639936 + D2 ∧ D2 < ell ∧ N % ell = D2)) (h0 h1 h4 : Option Blk) :
    Run Tryd.prog G 61 0 (fun v h' => v = lw (N % ell) ∧ h' = []) ([.r (v61_25.drop 2), .c (.seq (.seq (.reg v61_26) (.cond (.t 97) (.reg v61_27) .skip)) (.seq (.seq (.reg v61_28) (.cond (.t 107) (.reg v61_29) .skip)) (.seq (.reg v61_30) .ret)))],
      ⟨[.unk, .unk, .unk, .unk, .ptr 1 0, .unk, .unk, .unk, .ptr 3 0] ++ List.replicate 82 .unk ++ [lw low, lw qc] ++ List.replicate 22 .unk, [h0, some ⟨.rw, lc 0⟩, none, some ⟨.rw, lc ell⟩, none, none]⟩) := by
  have hl := ell_lt
  unfold v61_25
  refine run_driveS 80 ?_
  simp only [go_sem, List.drop]
  refine run_call' rfl ?_
  simp only [go_sem, calV]
  refine ref_minus low qc hlow hqc fun D1 b1 hD1 hb1 he1 => ?_
  obtain ⟨k1, k2, k3⟩ := hs D1 b1 he1 hD1 hb1
  refine run_driveS 80 ?_
  simp only [go_sem, v61_26]
  by_cases hb : b1 = 1
  · refine run_cond_t (by simp only [go_sem, decide_eq_true hb]) ?_
    obtain ⟨D2, e1, e2, e3⟩ := k3 hb
    refine run_driveS 80 ?_
    simp only [go_sem, v61_27]
    refine run_call' rfl ?_
    simp only [go_sem, calV]
    refine ref_plus D1 ell hD1 hl fun D b hD hb' he => ?_
    obtain rfl : D = D2 := by omega
    refine run_driveS 80 ?_
    simp only [go_sem, v61_28]
    refine run_call' rfl ?_
    simp only [go_sem, calV]
    refine ref_below D ell hD hl ?_
    refine run_driveS 80 ?_
    simp only [go_sem]
    refine run_cond_f (by simp only [go_sem, decide_eq_true e2]) ?_
    refine run_driveS 80 ?_
    simp only [go_sem, v61_30]
    refine run_ret_drop Tryd.func61 res61 [] (lw (N % ell)) [] rfl (by simp) trivial (by simp [uniq]) ?_ ⟨rfl, rfl⟩
    rw [e3]
    simp only [go_sem, rr61, lw_plain]
  · refine run_cond_f (by simp only [go_sem, decide_eq_false hb]) ?_
    have hb0 : b1 = 0 := by omega
    refine run_driveS 80 ?_
    simp only [go_sem, v61_28]
    refine run_call' rfl ?_
    simp only [go_sem, calV]
    refine ref_below D1 ell hD1 hl ?_
    refine run_driveS 80 ?_
    simp only [go_sem]
    by_cases hlt : D1 < ell
    · refine run_cond_f (by simp only [go_sem, decide_eq_true hlt]) ?_
      refine run_driveS 80 ?_
      simp only [go_sem, v61_30]
      refine run_ret_drop Tryd.func61 res61 [] (lw (N % ell)) [] rfl (by simp) trivial (by simp [uniq]) ?_ ⟨rfl, rfl⟩
      rw [k1 hb0 hlt]
      simp only [go_sem, rr61, lw_plain]
    · exact (k2 hb0 hlt).elim
theorem ref_step (A w : Nat) (hA : A < ell) (hw : w < 65536) {h : Heap} {R : V → Heap → Prop} (hQ : R (lw ((65536 * A + w) % ell)) h) : VCall Tryd.prog G 61 [lw A, .int .u64 (w : Int)] h R := by
  refine vcall_plain (Q := fun v => v = lw ((65536 * A + w) % ell)) ?_ (fun g => by simp only [rens, ren, lw_plain]) (fun v g hv => by subst hv; exact lw_plain _ g) (fun v hv => by subst hv; exact hQ)
  have hl := ell_lt
  have he : ell = 7237005577332262213973186563042994240857116359379907606001950938285454250989 := rfl
  obtain ⟨a0, a1, a2, a3, ha0, ha1, ha2, ha3, ea, eA⟩ := limbs A
  have eA := eA (by omega)
  rw [ea]
  obtain ⟨q, fq, eq⟩ : ∃ q, q = a3 / 17592186044416 ∧ r64 a3 44 = q := ⟨_, rfl, rfl⟩
  have hq : q < 262144 := by omega
  refine vcall_body Tryd.func61 nm61 code61 nt61 ?_
  obtain ⟨y0, p0, hy0, fy0⟩ := shl16 a0 w ha0 hw
  refine run_driveS 80 ?_
  simp only [go_sem, v61, v61_0, v61_1, v61_2, v61_3, v61_4, v61_10, eq, p0]
  obtain ⟨y1, p1, hy1, fy1⟩ := shl16 a1 (a0 / 281474976710656) ha1 (by omega)
  refine run_loop_eq v61_9.eq_1 ?_
  refine run_driveS 80 ?_
  simp only [go_sem, v61_5, v61_7]
  refine run_drw (by kernel_rfl) ?_
  refine drun_drive 40 (p := (_, _)) ?_
  simp only [go_sem, v61_6, shr48 a0 ha0, p1]
  refine drun_end ?_
  refine run_driveS 80 ?_
  simp only [go_sem, v61_8]
  obtain ⟨y2, p2, hy2, fy2⟩ := shl16 a2 (a1 / 281474976710656) ha2 (by omega)
  refine run_loop_eq v61_9.eq_1 ?_
  refine run_driveS 80 ?_
  simp only [go_sem, v61_5, v61_7]
  refine run_drw (by kernel_rfl) ?_
  refine drun_drive 40 (p := (_, _)) ?_
  simp only [go_sem, v61_6, shr48 a1 ha1, p2]
  refine drun_end ?_
  refine run_driveS 80 ?_
  simp only [go_sem, v61_8]
  obtain ⟨y3, p3, hy3, fy3⟩ := shl16 a3 (a2 / 281474976710656) ha3 (by omega)
  refine run_loop_eq v61_9.eq_1 ?_
  refine run_driveS 80 ?_
  simp only [go_sem, v61_5, v61_7]
  refine run_drw (by kernel_rfl) ?_
  refine drun_drive 40 (p := (_, _)) ?_
  simp only [go_sem, v61_6, shr48 a2 ha2, p3]
  refine drun_end ?_
  refine run_driveS 80 ?_
  simp only [go_sem, v61_8]
  obtain ⟨z3, fz3, ez3⟩ : ∃ z, z = y3 % 1152921504606846976 ∧ a64 y3 1152921504606846975 = z := ⟨_, rfl, and60 y3 hy3⟩
  refine run_loop_eq v61_9.eq_1 ?_
  refine run_driveS 80 ?_
  simp only [go_sem, v61_5]
  refine run_exit rfl ?_
  refine run_driveS 80 ?_
  simp only [go_sem, v61_11, ez3]
  refine run_call' rfl ?_
  simp only [go_sem, calV]
  refine ref_l ?_
  obtain ⟨m0, fm0, em0⟩ : ∃ m, m = 1559614445 ∧ a64 6346243789798364141 4294967295 = m := ⟨_, rfl, by decide⟩
  obtain ⟨m1, fm1, em1⟩ : ∃ m, m = 1477600026 ∧ r64 6346243789798364141 32 = m := ⟨_, rfl, by decide⟩
  obtain ⟨m2, fm2, em2⟩ : ∃ m, m = 2734136534 ∧ a64 1503914060200516822 4294967295 = m := ⟨_, rfl, by decide⟩
  obtain ⟨m3, fm3, em3⟩ : ∃ m, m = 350157278 ∧ r64 1503914060200516822 32 = m := ⟨_, rfl, by decide⟩
  refine run_driveS 80 ?_
  simp only [go_sem]
  rw [lc_ell]
  refine run_driveS 80 ?_
  simp only [go_sem, v61_13, em0, em1, em2, em3]
  rw [← lc_ell]
  refine run_driveS 80 ?_
  simp only [go_sem, v61_14, v61_15, v61_23]
  obtain ⟨x0, c0, u0, v0, hx0, hc0, e0⟩ := piece m0 q 0 (by omega) hq (by decide)
  rw [Nat.add_zero] at u0 v0
  refine run_loop_eq v61_22.eq_1 ?_
  refine run_driveS 80 ?_
  simp only [go_sem, v61_16, v61_20, v61_17, v61_18, v61_19, u0, v0]
  refine run_driveS 80 ?_
  simp only [go_sem, v61_21]
  obtain ⟨x1, c1, u1, v1, hx1, hc1, e1⟩ := piece m1 q c0 (by omega) hq hc0
  refine run_loop_eq v61_22.eq_1 ?_
  refine run_driveS 80 ?_
  simp only [go_sem, v61_16, v61_20, v61_17, v61_18, v61_19, u1, v1]
  refine run_driveS 80 ?_
  simp only [go_sem, v61_21]
  obtain ⟨x2, c2, u2, v2, hx2, hc2, e2⟩ := piece m2 q c1 (by omega) hq hc1
  refine run_loop_eq v61_22.eq_1 ?_
  refine run_driveS 80 ?_
  simp only [go_sem, v61_16, v61_20, v61_17, v61_18, v61_19, u2, v2]
  refine run_driveS 80 ?_
  simp only [go_sem, v61_21]
  obtain ⟨x3, c3, u3, v3, hx3, hc3, e3⟩ := piece m3 q c2 (by omega) hq hc2
  refine run_loop_eq v61_22.eq_1 ?_
  refine run_driveS 80 ?_
  simp only [go_sem, v61_16, v61_20, v61_17, v61_18, v61_19, u3, v3]
  refine run_driveS 80 ?_
  simp only [go_sem, v61_21]
  obtain ⟨s0, g0, hs0, fs0⟩ := or32 x0 x1 hx0 hx1
  obtain ⟨s1, g1, hs1, fs1⟩ := or32 x2 x3 hx2 hx3
  have hagg : V.agg [.int .u64 (s0 : Int), .int .u64 (s1 : Int), .int .u64 (c3 : Int), .int .u64 (nl 0)] = lw (s0 + 18446744073709551616 * s1 + 340282366920938463463374607431768211456 * c3 + 6277101735386680763835789423207666416102355444464034512896 * 0) := (lw_of hs0 hs1 (by omega) (by decide)).symm
  have hlow := (lw_of (d0 := y0) (d1 := y1) (d2 := y2) (d3 := z3) hy0 hy1 hy2 (by omega)).symm
  rw [Nat.mul_zero, Nat.add_zero] at hagg
  refine run_loop_eq v61_22.eq_1 ?_
  refine run_driveS 80 ?_
  simp only [go_sem, v61_16]
  refine run_exit rfl ?_
  refine run_driveS 80 ?_
  simp only [go_sem, v61_24, v61_25, g0, g1, hagg, hlow]
  refine run_rename [0, 1, 2, 3, 4, 5] rfl (by simp) ?_ ?_ ?_ (step_tail (65536 * A + w) (y0 + 18446744073709551616 * y1 + 340282366920938463463374607431768211456 * y2 + 6277101735386680763835789423207666416102355444464034512896 * z3) (s0 + 18446744073709551616 * s1 + 340282366920938463463374607431768211456 * c3) (by omega) (by omega) (fun D1 b1 e1 hD hb => ?_) none none none)
  · simp only [go_sem, hfit, lc_fit, scs_fit, fit, ren, gmap, lw_plain, true_or, or_true, lc_zero]
  · simp [uniq, wrB]
  · simp only [go_sem, hfit, lc_fit, scs_fit, fit, ren, gmap, lw_plain, true_or, or_true]
  · refine step_num (q := q) hA hw ?_ ?_ ?_ hq e1 hD hb
    · omega
    · omega
    · subst fm0 fm1 fm2 fm3
      omega
end
section
attribute [local go_sem ↓] lc_len lc_take lc_drop lc_known lc_one lc_rens lc_cells lw_known lw_agg lw_asG
attribute [local go_sem] lt_nat lt_natl lt_lnat lt_ll
set_option maxRecDepth 100000
set_option maxHeartbeats 1000000
def hp (ws : Nat → Nat) (n : Nat) : Nat → Nat
  | 0 => 0
  | k + 1 => 65536 * hp ws n k + ws (n - 1 - k)
theorem hp_step (ws : Nat → Nat) (n k : Nat) : (65536 * (hp ws n k % ell) + ws (n - 1 - k)) % ell = hp ws n (k + 1) % ell := by
  rw [hp, Nat.add_mod, Nat.mul_mod_mod, ← Nat.add_mod]
def wrow (n : Nat) (ws : Nat → Nat) : List V := row n fun j => [.int .u64 (ws j : Int)]
theorem wrow_get (n : Nat) (ws : Nat → Nat) {i : Nat} (h : i < n) : ((wrow n ws).drop i).take 1 = [.int .u64 (ws i : Int)] := by
  have := row_get' (s := 1) (e := fun j => [V.int .u64 (ws j : Int)]) (fun _ => rfl) (n := n) h
  rwa [Nat.mul_one] at this
theorem wrow_rens (n : Nat) (ws g : Nat → Nat) : rens g (wrow n ws) = wrow n ws := row_rens (fun j => by simp only [rens, ren]) n
theorem wrow_fit (n : Nat) (ws g : Nat → Nat) : fit g (wrow n ws) (wrow n ws) := fit_same (by rw [wrow_rens])
theorem words_loop (n : Nat) (hn : n < 1000000) (cap : Cap) (ws : Nat → Nat) (hws : ∀ j, ws j < 65536) {Q : V → Heap → Prop} (hQ : Q (lw (hp ws n n % ell)) [some ⟨.ro, wrow n ws⟩]) : ∀ m, m ≤ n → Run Tryd.prog G 36 1 Q ([.l v36_7, .b 0, .c (.seq (.reg v36_9) .ret)],
    ⟨[.sl 0 0 n cap, .unk, .ptr 1 0, .ptr 2 0, .int .i64 ((m : Int) - 1)] ++ List.replicate 14 .unk, [some ⟨.ro, wrow n ws⟩, some ⟨.rw, lc 0⟩, some ⟨.rw, lc (hp ws n (n - m) % ell)⟩]⟩)
  | 0, _ => by
    refine run_loop_eq v36_7.eq_1 ?_
    refine run_driveS 80 ?_
    simp only [go_sem, v36_3]
    refine run_exit rfl ?_
    refine run_driveS 80 ?_
    simp only [go_sem, v36_9]
    refine run_ret_drop Tryd.func36 res36 [0] (lw (hp ws n n % ell)) _ rfl (by simp) ?_ ?_ ?_ hQ
    · simp only [go_sem, hfit, lc_fit, scs_fit, fit, ren, gmap, lw_plain, true_or, or_true, wrow_fit]
    · simp [uniq, wrB]
    · simp only [go_sem, rr36, lw_plain, Nat.sub_zero]
  | m + 1, hm => by
    have ih := words_loop n hn cap ws hws hQ m (by omega)
    rw [show ((m + 1 : Nat) : Int) - 1 = (m : Int) by omega]
    have h0 : ((m : Int) < (n : Int)) = True := eq_true (by omega)
    have hg := wrow_get n ws (i := m) (by omega)
    have hw : IntKind.i64.wrap ((m : Int) - 1) = (m : Int) - 1 := wrap_i64 (by omega) (by omega)
    have hstep := hp_step ws n (n - (m + 1))
    rw [show n - 1 - (n - (m + 1)) = m by omega, show n - (m + 1) + 1 = n - m by omega] at hstep
    refine run_loop_eq v36_7.eq_1 ?_
    refine run_driveS 80 ?_
    simp only [go_sem, v36_3, v36_5]
    refine run_drw (by kernel_rfl) ?_
    refine drun_drive 40 (p := (_, _)) ?_
    simp only [go_sem, v36_4, h0, hg]
    refine drun_call' ?_
    simp only [go_sem, calV]
    refine ref_step _ _ (mod_lt' _) (hws m) ?_
    rw [hstep]
    refine drun_drive 40 (p := (_, _)) ?_
    simp only [go_sem]
    refine drun_end ?_
    refine run_driveS 80 ?_
    simp only [go_sem, v36_6, hw]
    refine run_rename [0, 1, 2] rfl (by simp) ?_ ?_ ?_ ih
    · simp only [go_sem, hfit, lc_fit, scs_fit, fit, ren, gmap, lw_plain, true_or, or_true, wrow_fit]
    · simp [uniq, wrB]
    · simp only [go_sem, hfit, lc_fit, scs_fit, fit, ren, gmap, lw_plain, true_or, or_true]
theorem ref_words (n : Nat) (hn : n < 1000000) (cap : Cap) (ws : Nat → Nat) (hws : ∀ j, ws j < 65536) (Q : V → Heap → Prop) (hQ : Q (lw (hp ws n n % ell)) [some ⟨.ro, wrow n ws⟩]) : VCall Tryd.prog G 36 [.sl 0 0 n cap] [some ⟨.ro, wrow n ws⟩] Q := by
  refine vcall_body Tryd.func36 nm36 code36 nt36 ?_
  have hw : IntKind.i64.wrap ((n : Int) - 1) = (n : Int) - 1 := wrap_i64 (by omega) (by omega)
  refine run_driveS 80 ?_
  simp only [go_sem, v36, v36_0, v36_1, v36_2, v36_8, hw]
  refine run_rename [0, 1, 2] rfl (by simp) ?_ ?_ ?_ (words_loop n hn cap ws hws hQ n (Nat.le_refl n))
  · rw [Nat.sub_self, show hp ws n 0 % ell = 0 from rfl]
    simp only [go_sem, hfit, lc_fit, scs_fit, fit, ren, gmap, lw_plain, true_or, or_true, wrow_fit, lc_zero]
  · simp [uniq, wrB]
  · simp only [go_sem, hfit, lc_fit, scs_fit, fit, ren, gmap, lw_plain, true_or, or_true]
theorem getD_lt {l : List Nat} {b : Nat} (h : ∀ x ∈ l, x < b) (hb : 0 < b) (j : Nat) : l.getD j 0 < b := by
  rw [List.getD_eq_getElem?_getD]
  cases hj : l[j]? with
  | none => exact hb
  | some x => exact h x (List.mem_of_getElem? hj)
theorem and16 (x : Nat) (hx : x < 18446744073709551616) : a64 x 65535 = x % 65536 := by
  unfold a64
  rw [show 65535 % 18446744073709551616 = 2 ^ 16 - 1 from rfl, Nat.and_two_pow_sub_one_eq_mod, Nat.mod_eq_of_lt hx]
theorem quarter (a : Nat) (ha : a < 18446744073709551616) : ∃ w0 w1 w2 w3 : Nat, a64 a 65535 = w0 ∧ a64 (r64 a 16) 65535 = w1 ∧ a64 (r64 a 32) 65535 = w2 ∧ r64 a 48 = w3 ∧ w0 < 65536 ∧ w1 < 65536 ∧ w2 < 65536 ∧ w3 < 65536 ∧ a = w0 + 65536 * w1 + 4294967296 * w2 + 281474976710656 * w3 := by
  have e1 : r64 a 16 = a / 65536 := rfl
  have e2 : r64 a 32 = a / 4294967296 := rfl
  have e3 : r64 a 48 = a / 281474976710656 := rfl
  refine ⟨_, _, _, _, rfl, rfl, rfl, rfl, ?_⟩
  rw [e1, e2, e3, and16 _ ha, and16 _ (by omega), and16 _ (by omega)]
  omega
theorem ref_least (A : Nat) (hA : A < 115792089237316195423570985008687907853269984665640564039457584007913129639936) {h : Heap} {R : V → Heap → Prop} (hQ : R (lw (A % ell)) h) : VCall Tryd.prog G 25 [lw A] h R := by
  refine vcall_plain (Q := fun v => v = lw (A % ell)) ?_ (fun g => by simp only [rens, ren, lw_plain]) (fun v g hv => by subst hv; exact lw_plain _ g) (fun v hv => by subst hv; exact hQ)
  obtain ⟨a0, a1, a2, a3, ha0, ha1, ha2, ha3, ea, eA⟩ := limbs A
  have eA := eA hA
  rw [ea]
  refine vcall_body Tryd.func25 nm25 code25 nt25 ?_
  refine run_driveS 80 ?_
  simp only [go_sem, v25, v25_0, v25_1, v25_2, v25_8]
  obtain ⟨w0_0, w0_1, w0_2, w0_3, p0_0, p0_1, p0_2, p0_3, q0_0, q0_1, q0_2, q0_3, f0⟩ := quarter a0 ha0
  refine run_loop_eq v25_7.eq_1 ?_
  refine run_driveS 80 ?_
  simp only [go_sem, v25_3, v25_5]
  refine run_drw (by kernel_rfl) ?_
  refine drun_drive 40 (p := (_, _)) ?_
  simp only [go_sem, v25_4, p0_0, p0_1, p0_2, p0_3]
  refine drun_end ?_
  refine run_driveS 80 ?_
  simp only [go_sem, v25_6]
  obtain ⟨w1_0, w1_1, w1_2, w1_3, p1_0, p1_1, p1_2, p1_3, q1_0, q1_1, q1_2, q1_3, f1⟩ := quarter a1 ha1
  refine run_loop_eq v25_7.eq_1 ?_
  refine run_driveS 80 ?_
  simp only [go_sem, v25_3, v25_5]
  refine run_drw (by kernel_rfl) ?_
  refine drun_drive 40 (p := (_, _)) ?_
  simp only [go_sem, v25_4, p1_0, p1_1, p1_2, p1_3]
  refine drun_end ?_
  refine run_driveS 80 ?_
  simp only [go_sem, v25_6]
  obtain ⟨w2_0, w2_1, w2_2, w2_3, p2_0, p2_1, p2_2, p2_3, q2_0, q2_1, q2_2, q2_3, f2⟩ := quarter a2 ha2
  refine run_loop_eq v25_7.eq_1 ?_
  refine run_driveS 80 ?_
  simp only [go_sem, v25_3, v25_5]
  refine run_drw (by kernel_rfl) ?_
  refine drun_drive 40 (p := (_, _)) ?_
  simp only [go_sem, v25_4, p2_0, p2_1, p2_2, p2_3]
  refine drun_end ?_
  refine run_driveS 80 ?_
  simp only [go_sem, v25_6]
  obtain ⟨w3_0, w3_1, w3_2, w3_3, p3_0, p3_1, p3_2, p3_3, q3_0, q3_1, q3_2, q3_3, f3⟩ := quarter a3 ha3
  refine run_loop_eq v25_7.eq_1 ?_
  refine run_driveS 80 ?_
  simp only [go_sem, v25_3, v25_5]
  refine run_drw (by kernel_rfl) ?_
  refine drun_drive 40 (p := (_, _)) ?_
  simp only [go_sem, v25_4, p3_0, p3_1, p3_2, p3_3]
  refine drun_end ?_
  refine run_driveS 80 ?_
  simp only [go_sem, v25_6]
  refine run_loop_eq v25_7.eq_1 ?_
  refine run_driveS 80 ?_
  simp only [go_sem, v25_3]
  refine run_exit rfl ?_
  refine run_driveS 80 ?_
  simp only [go_sem, v25_9]
  refine run_call' rfl ?_
  simp only [go_sem, calV]
  have hlt : ∀ x ∈ [w0_0, w0_1, w0_2, w0_3, w1_0, w1_1, w1_2, w1_3, w2_0, w2_1, w2_2, w2_3, w3_0, w3_1, w3_2, w3_3], x < 65536 := by
    intro x hx
    simp only [List.mem_cons, List.not_mem_nil, or_false] at hx
    omega
  have hrow : wrow 16 (fun j => [w0_0, w0_1, w0_2, w0_3, w1_0, w1_1, w1_2, w1_3, w2_0, w2_1, w2_2, w2_3, w3_0, w3_1, w3_2, w3_3].getD j 0) = [.int .u64 (w0_0 : Int), .int .u64 (w0_1 : Int), .int .u64 (w0_2 : Int), .int .u64 (w0_3 : Int), .int .u64 (w1_0 : Int), .int .u64 (w1_1 : Int), .int .u64 (w1_2 : Int), .int .u64 (w1_3 : Int), .int .u64 (w2_0 : Int), .int .u64 (w2_1 : Int), .int .u64 (w2_2 : Int), .int .u64 (w2_3 : Int), .int .u64 (w3_0 : Int), .int .u64 (w3_1 : Int), .int .u64 (w3_2 : Int), .int .u64 (w3_3 : Int)] := rfl
  have hval : hp (fun j => [w0_0, w0_1, w0_2, w0_3, w1_0, w1_1, w1_2, w1_3, w2_0, w2_1, w2_2, w2_3, w3_0, w3_1, w3_2, w3_3].getD j 0) 16 16 = A := by
    have : hp (fun j => [w0_0, w0_1, w0_2, w0_3, w1_0, w1_1, w1_2, w1_3, w2_0, w2_1, w2_2, w2_3, w3_0, w3_1, w3_2, w3_3].getD j 0) 16 16 = 65536 * (65536 * (65536 * (65536 * (65536 * (65536 * (65536 * (65536 * (65536 * (65536 * (65536 * (65536 * (65536 * (65536 * (65536 * (65536 * 0 + w3_3) + w3_2) + w3_1) + w3_0) + w2_3) + w2_2) + w2_1) + w2_0) + w1_3) + w1_2) + w1_1) + w1_0) + w0_3) + w0_2) + w0_1) + w0_0 := rfl
    rw [this]
    omega
  refine vcall_at (ref_words 16 (by decide) (.grow 1) (fun j => [w0_0, w0_1, w0_2, w0_3, w1_0, w1_1, w1_2, w1_3, w2_0, w2_1, w2_2, w2_3, w3_0, w3_1, w3_2, w3_3].getD j 0) (getD_lt hlt (by decide)) (fun v h => v = lw (A % ell) ∧ h = [some ⟨.ro, wrow 16 fun j => [w0_0, w0_1, w0_2, w0_3, w1_0, w1_1, w1_2, w1_3, w2_0, w2_1, w2_2, w2_3, w3_0, w3_1, w3_2, w3_3].getD j 0⟩]) ⟨by rw [hval], rfl⟩) [9] (by simp) ?_ ?_ ?_ ?_
  · rw [hrow]
    simp only [go_sem, hfit, lc_fit, scs_fit, fit, ren, gmap, lw_plain, true_or, or_true]
  · simp [uniq, wrB]
  · simp only [go_sem, ren, rens, gmap]
  · rintro v h'' ⟨rfl, rfl⟩
    simp only [go_sem, ren, rens, gmap, puts, wrB, Bool.false_eq_true, if_false, lw_plain]
    refine run_driveS 80 ?_
    simp only [go_sem]
    refine run_ret_drop Tryd.func25 res25 [] (lw (A % ell)) [] rfl (by simp) trivial (by simp [uniq]) ?_ ⟨rfl, rfl⟩
    simp only [go_sem, rr25, lw_plain]
end
end Go.Vs.Tryd
namespace Go.Vs.Tryd
open Go.Proofs
variable {G : Nat → List V}
set_option linter.unusedSimpArgs false
attribute [local go_sem] lenO_nils lenO_sl sliceAtV Int.sub_zero List.length_append List.all_append ge_iff_le gt_iff_lt Int.natCast_nonneg Int.toNat_natCast Nat.mul_one b_and_ll b_shr_ll b_mul_ll b_add_ll b_or_ll b_shl_ll pick_ll pick_lc pick_bb driveS stopV Option.isSome_some Option.isSome_none Kind.m Kind.w Kind.g look_ro look_rw look_grow drive stepV exo expo evs fillV isNil nilKind eqV eqL optA optM sliceAtV ev kn ldc stc splice appV srcV lenV setd wantV exitV rvs rv one List.length_cons List.length_nil List.cons_append List.nil_append List.append_nil List.replicate List.getD_cons_zero List.getD_cons_succ List.set_cons_zero List.set_cons_succ List.getElem?_cons_zero List.getElem?_cons_succ List.getElem?_nil List.take_succ_cons List.take_zero List.take_nil List.drop_succ_cons List.drop_zero List.drop_nil List.all_cons List.all_nil List.any_cons List.any_nil Bool.and_true Bool.true_and Bool.and_self Option.map_some Option.map_none Option.bind_some Option.some.injEq Nat.add_zero Nat.zero_add Int.toNat_zero Int.toNat_one Int.zero_add Int.add_zero if_true if_false ite_true ite_false and_true true_and and_self ne_eq not_false_eq_true not_true_eq_false decide_true decide_false Bool.false_eq_true Bool.not_true Bool.not_false beq_self_eq_true BEq.rfl Bool.not_eq_true Nat.le_refl Int.le_refl Nat.zero_le List.foldl List.map_cons List.map_nil Prod.mk.injEq Int.cast_ofNat_Int Int.zero_le_ofNat b_add_cc b_add_cl b_add_lc b_mul_cc b_mul_cl b_mul_lc b_sub_cc b_sub_cl b_sub_lc b_and_cc b_and_cl b_and_lc b_or_cc b_or_cl b_or_lc b_xor_cc b_xor_cl b_xor_lc b_andNot_cc b_andNot_cl b_andNot_lc b_shr_cc b_shr_cl b_shr_lc b_shl_cc b_shl_cl b_shl_lc b_lss b_leq b_gtr b_geq b_add_i b_sub_i b_mul_i beq_cc beq_cl beq_lc beq_ll b_quo_i b_rem_i neg_u64 wrap_i64 driveD stepD idsAt idOf maskH_nil restore_nil restore_mask List.filterMap_nil List.filterMap_cons VOp.looks VOp.makes exA cells_agg cells_int cells_bool cells_str cells_nilp cells_ptr cells_glob cells_nils cells_sl cells_nilf cells_fn cells_nili cells_ifc known_agg known_tup known_int known_bool known_str known_nilp known_ptr known_glob known_nils known_sl known_nilf known_fn known_nili known_ifc known_unk one_agg one_tup one_int one_bool one_str one_nilp one_ptr one_glob one_nils one_sl one_nilf one_fn one_nili one_ifc asK_int asN_int asB_bool asS_str asG_agg asT_tup true_or or_true false_or or_false
def brow (n : Nat) (f : Nat → Nat) : List V := row n fun j => [.int .u8 (f j : Int)]
theorem brow_len (n : Nat) (f : Nat → Nat) : (brow n f).length = n := by
  have := row_len (s := 1) (e := fun j => [V.int .u8 (f j : Int)]) (fun _ => rfl) n
  simpa [brow] using this
theorem brow_get (n : Nat) (f : Nat → Nat) (rest : List V) {i : Nat} (h : i < n) : ((brow n f ++ rest).drop i).take 1 = [.int .u8 (f i : Int)] := by
  have := row_get (s := 1) (e := fun j => [V.int .u8 (f j : Int)]) (fun _ => rfl) rest h
  simpa [brow] using this
theorem brow_get' (n : Nat) (f : Nat → Nat) {i : Nat} (h : i < n) : ((brow n f).drop i).take 1 = [.int .u8 (f i : Int)] := by
  have := brow_get n f [] h
  rwa [List.append_nil] at this
theorem brow_known (n : Nat) (f : Nat → Nat) : (brow n f).all V.known = true := row_all (fun _ => rfl) n
theorem brow_one (n : Nat) (f : Nat → Nat) : (brow n f).all V.one = true := row_all (fun _ => rfl) n
theorem brow_rens (n : Nat) (f g : Nat → Nat) : rens g (brow n f) = brow n f := row_rens (fun j => by simp only [rens, ren]) n
theorem brow_congr {n : Nat} {f f' : Nat → Nat} (h : ∀ j, j < n → f j = f' j) : brow n f = brow n f' := row_congr fun j hj => by rw [h j hj]
theorem brow_snoc (n : Nat) (f : Nat → Nat) : brow n f ++ [.int .u8 (f n : Int)] = brow (n + 1) f := rfl
theorem brow_take (n : Nat) (f : Nat → Nat) : (brow n f).take n = brow n f := List.take_of_length_le (by rw [brow_len]; exact Nat.le_refl _)
theorem brow_app (n : Nat) (f : Nat → Nat) : ∀ m (g : Nat → Nat), brow n f ++ brow m g = brow (n + m) fun j => if j < n then f j else g (j - n)
  | 0, g => by
    show brow n f ++ [] = _
    rw [List.append_nil]
    exact brow_congr fun j hj => by rw [if_pos hj]
  | m + 1, g => by
    show brow n f ++ (brow m g ++ [.int .u8 (g m : Int)]) = brow (n + m) (fun j => if j < n then f j else g (j - n)) ++ [.int .u8 ((if n + m < n then f (n + m) else g (n + m - n) : Nat) : Int)]
    rw [← List.append_assoc, brow_app n f m g, if_neg (by omega), Nat.add_sub_cancel_left]
theorem brow_drop (n : Nat) (f : Nat → Nat) : ∀ {k : Nat}, k ≤ n → (brow n f).drop k = brow (n - k) fun j => f (k + j) := by
  intro k hk
  have h := brow_app k f (n - k) (fun j => f (k + j))
  have e : brow (k + (n - k)) (fun j => if j < k then f j else f (k + (j - k))) = brow n f := by
    rw [show k + (n - k) = n by omega]
    exact brow_congr fun j hj => by
      split
      · rfl
      · congr 1; omega
  rw [e] at h
  rw [← h, List.drop_left' (brow_len k f)]
theorem brow_takes (n : Nat) (f : Nat → Nat) {k : Nat} (hk : k ≤ n) : (brow n f).take k = brow k f := by
  have h := brow_app k f (n - k) (fun j => f (k + j))
  have e : brow (k + (n - k)) (fun j => if j < k then f j else f (k + (j - k))) = brow n f := by
    rw [show k + (n - k) = n by omega]
    exact brow_congr fun j hj => by
      split
      · rfl
      · congr 1; omega
  rw [e] at h
  rw [← h, List.take_left' (brow_len k f)]
theorem brow_set (n : Nat) (f f' : Nat → Nat) {i v : Nat} (h : i < n) (hv : f' i = v) (hf : ∀ j, j < n → j ≠ i → f j = f' j) : (brow n f).take i ++ [.int .u8 (v : Int)] ++ (brow n f).drop (i + 1) = brow n f' := by
  rw [brow_takes n f (by omega), brow_drop n f (by omega), brow_congr (n := i) (f' := f') (fun j hj => hf j (by omega) (by omega)), ← hv, brow_snoc, brow_app]
  rw [show i + 1 + (n - (i + 1)) = n by omega]
  exact brow_congr fun j hj => by
    split
    · rfl
    · rw [hf _ (by omega) (by omega)]; congr 1; omega
def bints : Nat → (Nat → Nat) → List Int
  | 0, _ => []
  | n + 1, f => bints n f ++ [(f n : Int)]
theorem u8s_append : ∀ {l m : List V} {a b : List Int}, u8s l = some a → u8s m = some b → u8s (l ++ m) = some (a ++ b)
  | [], m, a, b, h, k => by
    simp only [u8s, Option.some.injEq] at h; subst h; simpa using k
  | v :: l, m, a, b, h, k => by
    rw [List.cons_append]
    unfold u8s at h ⊢
    split at h
    · rename_i e; cases e
    · rename_i n l' e
      cases e
      simp only [Option.map_eq_some_iff] at h
      obtain ⟨c, hc, rfl⟩ := h
      simp only [u8s_append hc k, Option.map_some, List.cons_append]
    · cases h
theorem u8s_brow : ∀ (n : Nat) (f : Nat → Nat), u8s (brow n f) = some (bints n f)
  | 0, _ => rfl
  | n + 1, f => u8s_append (u8s_brow n f) rfl
def lmb (A : Nat) : Nat → Nat
  | 0 => A % 18446744073709551616
  | 1 => A / 18446744073709551616 % 18446744073709551616
  | 2 => A / 340282366920938463463374607431768211456 % 18446744073709551616
  | _ => A / 6277101735386680763835789423207666416102355444464034512896 % 18446744073709551616
theorem lmb_lt (A q : Nat) : lmb A q < 18446744073709551616 := by
  match q with
  | 0 | 1 | 2 | _ + 3 => exact Nat.mod_lt _ (by decide)
theorem lc_lmb (A : Nat) {q : Nat} (hq : q < 4) : ((lc A).drop q).take 1 = [.int .u64 (lmb A q : Int)] := by
  match q, hq with
  | 0, _ | 1, _ | 2, _ | 3, _ => rfl
def enc (A i : Nat) : Nat := lmb A (i / 8) / 2 ^ (8 * (i % 8)) % 256
def hor (f : Nat → Nat) : Nat → Nat → Nat
  | _, 0 => 0
  | a, n + 1 => f a + 256 * hor f (a + 1) n
theorem hor_lt {f : Nat → Nat} (h : ∀ j, f j < 256) : ∀ n a, hor f a n < 256 ^ n
  | 0, _ => by simp [hor]
  | n + 1, a => by
    have := hor_lt h n (a + 1)
    have := h a
    rw [hor, Nat.pow_succ]
    omega
theorem hor_get {f : Nat → Nat} (h : ∀ j, f j < 256) : ∀ n a k, k < n → hor f a n / 256 ^ k % 256 = f (a + k)
  | n + 1, a, 0, _ => by
    have := h a
    show _ = f a
    rw [hor, Nat.pow_zero, Nat.div_one]
    omega
  | n + 1, a, k + 1, hk => by
    have := h a
    rw [hor, Nat.pow_succ, Nat.mul_comm (256 ^ k) 256, ← Nat.div_div_eq_div_mul, show (f a + 256 * hor f (a + 1) n) / 256 = hor f (a + 1) n by omega, hor_get h n (a + 1) k (by omega)]
    congr 1; omega
def dec (f : Nat → Nat) : Nat := hor f 0 8 + 18446744073709551616 * hor f 8 8 + 340282366920938463463374607431768211456 * hor f 16 8 + 6277101735386680763835789423207666416102355444464034512896 * hor f 24 8
theorem hor8_lt {f : Nat → Nat} (h : ∀ j, f j < 256) (a : Nat) : hor f a 8 < 18446744073709551616 := hor_lt h 8 a
theorem dec_lt {f : Nat → Nat} (h : ∀ j, f j < 256) : dec f < 115792089237316195423570985008687907853269984665640564039457584007913129639936 := by
  have h0 := hor8_lt h 0
  have h1 := hor8_lt h 8
  have h2 := hor8_lt h 16
  have h3 := hor8_lt h 24
  unfold dec
  omega
theorem lmb_dec {f : Nat → Nat} (h : ∀ j, f j < 256) {q : Nat} (hq : q < 4) : lmb (dec f) q = hor f (8 * q) 8 := by
  have h0 := hor8_lt h 0
  have h1 := hor8_lt h 8
  have h2 := hor8_lt h 16
  have h3 := hor8_lt h 24
  match q, hq with
  | 0, _ | 1, _ | 2, _ | 3, _ => simp only [lmb, dec, Nat.mul_zero, Nat.mul_one, Nat.reduceMul]; omega
theorem lc_dec {f : Nat → Nat} (h : ∀ j, f j < 256) : [V.int .u64 (hor f 0 8 : Int), .int .u64 (hor f 8 8 : Int), .int .u64 (hor f 16 8 : Int), .int .u64 (hor f 24 8 : Int)] = lc (dec f) := lc_of (hor8_lt h 0) (hor8_lt h 8) (hor8_lt h 16) (hor8_lt h 24)
theorem enc_dec {f : Nat → Nat} (h : ∀ j, f j < 256) {i : Nat} (hi : i < 32) : enc (dec f) i = f i := by
  unfold enc
  rw [lmb_dec h (by omega), Nat.pow_mul, show 2 ^ 8 = 256 from rfl, hor_get h 8 _ _ (by omega)]
  congr 1; omega
theorem digits8 {x : Nat} (h : x < 18446744073709551616) : x / 2 ^ 0 % 256 + 256 * (x / 2 ^ 8 % 256 + 256 * (x / 2 ^ 16 % 256 + 256 * (x / 2 ^ 24 % 256 + 256 * (x / 2 ^ 32 % 256 + 256 * (x / 2 ^ 40 % 256 + 256 * (x / 2 ^ 48 % 256 + 256 * (x / 2 ^ 56 % 256 + 256 * 0))))))) = x := by
  simp only [Nat.reducePow]
  omega
theorem hor_enc (A : Nat) {q : Nat} (hq : q < 4) : hor (enc A) (8 * q) 8 = lmb A q := by
  have := digits8 (lmb_lt A q)
  match q, hq with
  | 0, _ | 1, _ | 2, _ | 3, _ => exact this
theorem dec_enc {A : Nat} (h : A < 115792089237316195423570985008687907853269984665640564039457584007913129639936) : dec (enc A) = A := by
  have h0 := hor_enc A (q := 0) (by decide)
  have h1 := hor_enc A (q := 1) (by decide)
  have h2 := hor_enc A (q := 2) (by decide)
  have h3 := hor_enc A (q := 3) (by decide)
  simp only [Nat.mul_zero, Nat.mul_one, Nat.reduceMul] at h0 h1 h2 h3
  unfold dec
  rw [h0, h1, h2, h3]
  simp only [lmb]
  omega
end Go.Vs.Tryd
namespace Go.Vs.Tryd
open Go.Proofs
variable {G : Nat → List V}
set_option linter.unusedSimpArgs false
attribute [local go_sem] lenO_nils lenO_sl sliceAtV Int.sub_zero List.length_append List.all_append ge_iff_le gt_iff_lt Int.natCast_nonneg Int.toNat_natCast Nat.mul_one b_and_ll b_shr_ll b_mul_ll b_add_ll b_or_ll b_shl_ll pick_ll pick_lc pick_bb driveS stopV Option.isSome_some Option.isSome_none Kind.m Kind.w Kind.g look_ro look_rw look_grow drive stepV exo expo evs fillV isNil nilKind eqV eqL optA optM sliceAtV ev kn ldc stc splice appV srcV lenV setd wantV exitV rvs rv one List.length_cons List.length_nil List.cons_append List.nil_append List.append_nil List.replicate List.getD_cons_zero List.getD_cons_succ List.set_cons_zero List.set_cons_succ List.getElem?_cons_zero List.getElem?_cons_succ List.getElem?_nil List.take_succ_cons List.take_zero List.take_nil List.drop_succ_cons List.drop_zero List.drop_nil List.all_cons List.all_nil List.any_cons List.any_nil Bool.and_true Bool.true_and Bool.and_self Option.map_some Option.map_none Option.bind_some Option.some.injEq Nat.add_zero Nat.zero_add Int.toNat_zero Int.toNat_one Int.zero_add Int.add_zero if_true if_false ite_true ite_false and_true true_and and_self ne_eq not_false_eq_true not_true_eq_false decide_true decide_false Bool.false_eq_true Bool.not_true Bool.not_false beq_self_eq_true BEq.rfl Bool.not_eq_true Nat.le_refl Int.le_refl Nat.zero_le List.foldl List.map_cons List.map_nil Prod.mk.injEq Int.cast_ofNat_Int Int.zero_le_ofNat b_add_cc b_add_cl b_add_lc b_mul_cc b_mul_cl b_mul_lc b_sub_cc b_sub_cl b_sub_lc b_and_cc b_and_cl b_and_lc b_or_cc b_or_cl b_or_lc b_xor_cc b_xor_cl b_xor_lc b_andNot_cc b_andNot_cl b_andNot_lc b_shr_cc b_shr_cl b_shr_lc b_shl_cc b_shl_cl b_shl_lc b_lss b_leq b_gtr b_geq b_add_i b_sub_i b_mul_i beq_cc beq_cl beq_lc beq_ll b_quo_i b_rem_i neg_u64 wrap_i64 driveD stepD idsAt idOf maskH_nil restore_nil restore_mask List.filterMap_nil List.filterMap_cons VOp.looks VOp.makes exA cells_agg cells_int cells_bool cells_str cells_nilp cells_ptr cells_glob cells_nils cells_sl cells_nilf cells_fn cells_nili cells_ifc known_agg known_tup known_int known_bool known_str known_nilp known_ptr known_glob known_nils known_sl known_nilf known_fn known_nili known_ifc known_unk one_agg one_tup one_int one_bool one_str one_nilp one_ptr one_glob one_nils one_sl one_nilf one_fn one_nili one_ifc asK_int asN_int asB_bool asS_str asG_agg asT_tup
attribute [local go_sem ↓] lc_len lc_take lc_drop lc_known lc_one lc_rens lc_cells lw_known lw_agg lw_asG
attribute [local go_sem] lt_nat lt_natl lt_lnat lt_ll
attribute [local go_sem ↓] wrow_fit wrow_rens
set_option maxRecDepth 100000
set_option maxHeartbeats 1000000
def val (p : Nat → Nat) : Nat → Nat
  | 0 => 0
  | n + 1 => val p n + p n * 4294967296 ^ n
def mr (m : Nat) : List V := [.unk, .unk, .unk, .unk, .ptr 2 0, .unk, .unk, .ptr 5 0, .unk, .unk, .unk, .unk, .ptr 6 0, .int .i64 ((m : Int) - 1)] ++ List.replicate 56 .unk
end Go.Vs.Tryd
namespace Go.Vs.Tryd
open Go.Proofs
variable {G : Nat → List V}
set_option linter.unusedSimpArgs false
attribute [local go_sem] lenO_nils lenO_sl sliceAtV Int.sub_zero List.length_append List.all_append ge_iff_le gt_iff_lt Int.natCast_nonneg Int.toNat_natCast Nat.mul_one b_and_ll b_shr_ll b_mul_ll b_add_ll b_or_ll b_shl_ll pick_ll pick_lc pick_bb driveS stopV Option.isSome_some Option.isSome_none Kind.m Kind.w Kind.g look_ro look_rw look_grow drive stepV exo expo evs fillV isNil nilKind eqV eqL optA optM sliceAtV ev kn ldc stc splice appV srcV lenV setd wantV exitV rvs rv one List.length_cons List.length_nil List.cons_append List.nil_append List.append_nil List.replicate List.getD_cons_zero List.getD_cons_succ List.set_cons_zero List.set_cons_succ List.getElem?_cons_zero List.getElem?_cons_succ List.getElem?_nil List.take_succ_cons List.take_zero List.take_nil List.drop_succ_cons List.drop_zero List.drop_nil List.all_cons List.all_nil List.any_cons List.any_nil Bool.and_true Bool.true_and Bool.and_self Option.map_some Option.map_none Option.bind_some Option.some.injEq Nat.add_zero Nat.zero_add Int.toNat_zero Int.toNat_one Int.zero_add Int.add_zero if_true if_false ite_true ite_false and_true true_and and_self ne_eq not_false_eq_true not_true_eq_false decide_true decide_false Bool.false_eq_true Bool.not_true Bool.not_false beq_self_eq_true BEq.rfl Bool.not_eq_true Nat.le_refl Int.le_refl Nat.zero_le List.foldl List.map_cons List.map_nil Prod.mk.injEq Int.cast_ofNat_Int Int.zero_le_ofNat b_add_cc b_add_cl b_add_lc b_mul_cc b_mul_cl b_mul_lc b_sub_cc b_sub_cl b_sub_lc b_and_cc b_and_cl b_and_lc b_or_cc b_or_cl b_or_lc b_xor_cc b_xor_cl b_xor_lc b_andNot_cc b_andNot_cl b_andNot_lc b_shr_cc b_shr_cl b_shr_lc b_shl_cc b_shl_cl b_shl_lc b_lss b_leq b_gtr b_geq b_add_i b_sub_i b_mul_i beq_cc beq_cl beq_lc beq_ll b_quo_i b_rem_i neg_u64 wrap_i64 driveD stepD idsAt idOf maskH_nil restore_nil restore_mask List.filterMap_nil List.filterMap_cons VOp.looks VOp.makes exA cells_agg cells_int cells_bool cells_str cells_nilp cells_ptr cells_glob cells_nils cells_sl cells_nilf cells_fn cells_nili cells_ifc known_agg known_tup known_int known_bool known_str known_nilp known_ptr known_glob known_nils known_sl known_nilf known_fn known_nili known_ifc known_unk one_agg one_tup one_int one_bool one_str one_nilp one_ptr one_glob one_nils one_sl one_nilf one_fn one_nili one_ifc asK_int asN_int asB_bool asS_str asG_agg asT_tup
attribute [local go_sem_proc] Nat.reduceAdd Nat.reduceSub Nat.reduceLeDiff Nat.reduceMul Nat.reduceLT Nat.reduceEqDiff Int.reduceLT Int.reduceLE Int.reduceAdd Int.reduceSub Int.reduceMul Int.reduceToNat reduceIte reduceCtorEq Nat.reduceBEq
attribute [local go_sem ↓] lc_len lc_take lc_drop lc_known lc_one lc_rens lc_cells lw_known lw_agg lw_asG
attribute [local go_sem] lt_nat lt_natl lt_lnat lt_ll
set_option maxRecDepth 100000
set_option maxHeartbeats 1000000
def pz : List V := [.int .i64 0, .int .i64 0, .int .i64 0, .int .i64 0, .int .i64 0, .int .i64 0, .int .i64 0, .int .i64 0, .int .i64 0, .int .i64 0, .int .i64 0, .int .i64 0, .int .i64 0, .int .i64 0, .int .i64 0, .int .i64 0, .int .i64 0, .int .i64 0, .int .i64 0, .int .i64 0]
def ecs (k : Nat) : List V := .int .i64 2 :: (pz ++ (lc k ++ [.nils]))
def ew (k : Nat) : V := .agg (ecs k)
theorem ecs_len (k : Nat) : (ecs k).length = 26 := rfl
theorem ecs_take (k : Nat) : (ecs k).take 26 = ecs k := rfl
theorem ecs_drop (k : Nat) : (ecs k).drop 26 = [] := rfl
theorem ecs_known (k : Nat) : (ecs k).all V.known = true := rfl
theorem ecs_one (k : Nat) : (ecs k).all V.one = true := rfl
theorem ecs_rens (k : Nat) (g : Nat → Nat) : rens g (ecs k) = ecs k := by simp only [ecs, pz, rens, rens_append, lc_rens, ren]
theorem ecs_fit (g : Nat → Nat) (k : Nat) : fit g (ecs k) (ecs k) := fit_same (ecs_rens k g)
theorem ecs_cells (k : Nat) : cellsOf (ew k) = ecs k := rfl
theorem ew_known (k : Nat) : (ew k).known = true := rfl
theorem ew_agg (k : Nat) : V.agg (ecs k) = ew k := rfl
theorem ew_asG (k : Nat) : asG (ew k) = some (ecs k) := rfl
theorem ew_plain (k : Nat) (g : Nat → Nat) : ren g (ew k) = ew k := by simp only [ew, ren, ecs_rens]
theorem ecs_kind (k : Nat) : (ecs k).take 1 = [.int .i64 2] := rfl
theorem ecs_k (k : Nat) : ((ecs k).drop 21).take 4 = lc k := rfl
theorem ecs_l (k : Nat) : ((ecs k).drop 25).take 1 = [.nils] := rfl
attribute [local go_sem ↓] ecs_len ecs_take ecs_drop ecs_known ecs_one ecs_rens ecs_fit ecs_cells ew_known ew_agg ew_asG ecs_kind ecs_k ecs_l
theorem line_of (k : Nat) {h : Heap} {R : V → Heap → Prop} (hQ : R (ew k) h) : VCall Tryd.prog G 24 [lw k] h R := by
  refine vcall_plain (Q := fun v => v = ew k) ?_ (fun g => by simp only [rens, lw_plain]) (fun v g hv => by subst hv; exact ew_plain _ g) (fun v hv => by subst hv; exact hQ)
  refine vcall_body Tryd.func24 nm24 code24 nt24 ?_
  refine run_driveS 80 ?_
  simp only [go_sem, v24, v24_0, v24_1]
  refine run_ret_drop Tryd.func24 res24 [] (ew k) [] rfl (by simp) trivial (by simp [uniq]) ?_ ⟨rfl, rfl⟩
  simp only [go_sem, rr24, ew_plain]
  rfl
theorem e_same (a b : Nat) (ha : a < 115792089237316195423570985008687907853269984665640564039457584007913129639936) (hb : b < 115792089237316195423570985008687907853269984665640564039457584007913129639936) {h : Heap} {R : V → Heap → Prop} (hQ : R (.bool (decide (a = b))) h) : VCall Tryd.prog G 32 [ew a, ew b] h R := by
  refine vcall_plain (Q := fun v => v = .bool (decide (a = b))) ?_ (fun g => by simp only [rens, lw_plain, ew_plain]) (fun v g hv => by subst hv; rfl) (fun v hv => by subst hv; exact hQ)
  have q := lc_eqL ha hb
  refine vcall_body Tryd.func32 nm32 code32 nt32 ?_
  refine run_driveS 80 ?_
  simp only [go_sem, v32, v32_0, v32_1]
  refine run_cond_f (by simp only [go_sem]) ?_
  refine run_driveS 80 ?_
  simp only [go_sem, v32_3, v32_8, v32_4]
  refine run_cond_f (by simp only [go_sem]; rfl) ?_
  refine run_driveS 80 ?_
  simp only [go_sem, v32_6]
  refine run_cond_t (by simp only [go_sem]) ?_
  refine run_driveS 80 ?_
  simp only [go_sem, v32_7, q]
  refine run_ret_drop Tryd.func32 res32 [] (.bool (decide (a = b))) [] rfl (by simp) trivial (by simp [uniq]) ?_ ⟨rfl, rfl⟩
  simp only [go_sem, rr32, ren]
end Go.Vs.Tryd
namespace Go.Vs.Tryd
open Go.Proofs
variable {G : Nat → List V}
set_option linter.unusedSimpArgs false
attribute [local go_sem] lenO_nils lenO_sl sliceAtV Int.sub_zero List.length_append List.all_append ge_iff_le gt_iff_lt Int.natCast_nonneg Int.toNat_natCast Nat.mul_one b_and_ll b_shr_ll b_mul_ll b_add_ll b_or_ll b_shl_ll pick_ll pick_lc pick_bb driveS stopV Option.isSome_some Option.isSome_none Kind.m Kind.w Kind.g look_ro look_rw look_grow drive stepV exo expo evs fillV isNil nilKind eqV eqL optA optM sliceAtV ev kn ldc stc splice appV srcV lenV setd wantV exitV rvs rv one List.length_cons List.length_nil List.cons_append List.nil_append List.append_nil List.replicate List.getD_cons_zero List.getD_cons_succ List.set_cons_zero List.set_cons_succ List.getElem?_cons_zero List.getElem?_cons_succ List.getElem?_nil List.take_succ_cons List.take_zero List.take_nil List.drop_succ_cons List.drop_zero List.drop_nil List.all_cons List.all_nil List.any_cons List.any_nil Bool.and_true Bool.true_and Bool.and_self Option.map_some Option.map_none Option.bind_some Option.some.injEq Nat.add_zero Nat.zero_add Int.toNat_zero Int.toNat_one Int.zero_add Int.add_zero if_true if_false ite_true ite_false and_true true_and and_self ne_eq not_false_eq_true not_true_eq_false decide_true decide_false Bool.false_eq_true Bool.not_true Bool.not_false beq_self_eq_true BEq.rfl Bool.not_eq_true Nat.le_refl Int.le_refl Nat.zero_le List.foldl List.map_cons List.map_nil Prod.mk.injEq Int.cast_ofNat_Int Int.zero_le_ofNat b_add_cc b_add_cl b_add_lc b_mul_cc b_mul_cl b_mul_lc b_sub_cc b_sub_cl b_sub_lc b_and_cc b_and_cl b_and_lc b_or_cc b_or_cl b_or_lc b_xor_cc b_xor_cl b_xor_lc b_andNot_cc b_andNot_cl b_andNot_lc b_shr_cc b_shr_cl b_shr_lc b_shl_cc b_shl_cl b_shl_lc b_lss b_leq b_gtr b_geq b_add_i b_sub_i b_mul_i beq_cc beq_cl beq_lc beq_ll b_quo_i b_rem_i neg_u64 wrap_i64 driveD stepD idsAt idOf maskH_nil restore_nil restore_mask List.filterMap_nil List.filterMap_cons VOp.looks VOp.makes exA cells_agg cells_int cells_bool cells_str cells_nilp cells_ptr cells_glob cells_nils cells_sl cells_nilf cells_fn cells_nili cells_ifc known_agg known_tup known_int known_bool known_str known_nilp known_ptr known_glob known_nils known_sl known_nilf known_fn known_nili known_ifc known_unk one_agg one_tup one_int one_bool one_str one_nilp one_ptr one_glob one_nils one_sl one_nilf one_fn one_nili one_ifc asK_int asN_int asB_bool asS_str asG_agg asT_tup
section
attribute [local go_sem ↓] lc_len lc_take lc_drop lc_known lc_one lc_rens lc_cells lw_known lw_agg lw_asG scs_known scs_one scs_len
set_option maxRecDepth 100000
set_option maxHeartbeats 1000000
theorem bool_tf : (true == false) = false := rfl
theorem bool_ft : (false == true) = false := rfl
attribute [local go_sem] bool_tf bool_ft
end
section
attribute [local go_sem ↓] lc_len lc_take lc_drop lc_known lc_one lc_rens lc_cells lw_known lw_agg lw_asG scs_known scs_one scs_len
set_option maxRecDepth 100000
set_option maxHeartbeats 1000000
theorem lc_take_add (a k : Nat) (l : List V) : (lc a ++ l).take (k + 4) = lc a ++ l.take k := rfl
theorem lc_drop_add (a k : Nat) (l : List V) : (lc a ++ l).drop (k + 4) = l.drop k := rfl
attribute [local go_sem ↓] lc_take_add lc_drop_add
attribute [local go_sem] bool_tf bool_ft
end
section
attribute [local go_sem ↓] lc_len lc_take lc_drop lc_known lc_one lc_rens lc_cells lw_known lw_agg lw_asG
attribute [local go_sem] lt_nat lt_natl lt_lnat lt_ll
set_option maxRecDepth 100000
set_option maxHeartbeats 1000000
inductive In (f : Nat → Nat) : Nat → V → Option Blk → Prop
  | nil : In f 0 .nils none
  | sl (n m : Nat) (h : n ≤ m) : In f n (.sl 0 0 n (.exact m)) (some ⟨.ro, scs n f⟩)
end
section
attribute [local go_sem ↓] lc_len lc_take lc_drop lc_known lc_one lc_rens lc_cells lw_known lw_agg lw_asG scs_known scs_one scs_len
attribute [local go_sem] lt_nat lt_natl lt_lnat lt_ll
set_option maxRecDepth 100000
set_option maxHeartbeats 1000000
def dv (b : Nat) (n : Nat) : V := if n = 0 then .nils else .sl b 0 n (.grow 4)
def db (g : Nat → Nat) (n : Nat) : Option Blk := if n = 0 then none else some ⟨.grow, scs n g⟩
theorem dv_pos {b n : Nat} (h : 0 < n) : dv b n = .sl b 0 n (.grow 4) := if_neg (by omega)
theorem db_pos {g : Nat → Nat} {n : Nat} (h : 0 < n) : db g n = some ⟨.grow, scs n g⟩ := if_neg (by omega)
theorem scs_snoc (n : Nat) (g : Nat → Nat) {v : Nat} (h : g n = v) : scs n g ++ lc v = scs (n + 1) g := by subst h; rfl
end
section
attribute [local go_sem ↓] lc_len lc_take lc_drop lc_known lc_one lc_rens lc_cells lw_known lw_agg lw_asG scs_known scs_one scs_len
attribute [local go_sem] lt_nat lt_natl lt_lnat lt_ll bool_tf bool_ft
attribute [local go_sem ↓] ecs_len ecs_take ecs_drop ecs_known ecs_one ecs_rens ecs_fit ecs_cells ew_known ew_agg ew_asG ecs_kind ecs_k ecs_l
set_option maxRecDepth 100000
set_option maxHeartbeats 1000000
theorem ecs_take_add (a k : Nat) (l : List V) : (ecs a ++ l).take (k + 26) = ecs a ++ l.take k := rfl
theorem ecs_drop_add (a k : Nat) (l : List V) : (ecs a ++ l).drop (k + 26) = l.drop k := rfl
/- Elements, one behind the other; a slice of them that was grown by append; its block, read only. -/
theorem ecs26 (f : Nat → Nat) (j : Nat) : (ecs (f j)).length = 26 := rfl
def ers (n : Nat) (f : Nat → Nat) : List V := row n fun j => ecs (f j)
theorem ers_len (n : Nat) (f : Nat → Nat) : (ers n f).length = n * 26 := row_len (ecs26 f) n
theorem ers_get (n : Nat) (f : Nat → Nat) {i : Nat} (h : i < n) : ((ers n f).drop (i * 26)).take 26 = ecs (f i) := row_get' (ecs26 f) h
theorem ers_known (n : Nat) (f : Nat → Nat) : (ers n f).all V.known = true := row_all (fun _ => rfl) n
theorem ers_one (n : Nat) (f : Nat → Nat) : (ers n f).all V.one = true := row_all (fun _ => rfl) n
theorem ers_rens (n : Nat) (f g : Nat → Nat) : rens g (ers n f) = ers n f := row_rens (fun j => ecs_rens _ g) n
theorem ers_fit (n : Nat) (f g : Nat → Nat) : fit g (ers n f) (ers n f) := fit_same (ers_rens n f g)
theorem ers_snoc (n : Nat) (g : Nat → Nat) {v : Nat} (h : g n = v) : ers n g ++ ecs v = ers (n + 1) g := by subst h; rfl
def de (b n : Nat) : V := if n = 0 then .nils else .sl b 0 n (.grow 26)
def eb (f : Nat → Nat) (n : Nat) : Option Blk := if n = 0 then none else some ⟨.ro, ers n f⟩
def ebg (f : Nat → Nat) (n : Nat) : Option Blk := if n = 0 then none else some ⟨.grow, ers n f⟩
theorem de_pos {b n : Nat} (h : 0 < n) : de b n = .sl b 0 n (.grow 26) := if_neg (by omega)
theorem eb_pos {f : Nat → Nat} {n : Nat} (h : 0 < n) : eb f n = some ⟨.ro, ers n f⟩ := if_neg (by omega)
theorem ebg_pos {f : Nat → Nat} {n : Nat} (h : 0 < n) : ebg f n = some ⟨.grow, ers n f⟩ := if_neg (by omega)
theorem lenO_de (b n : Nat) : lenO (de b n) = some n := by
  unfold de
  by_cases h : n = 0
  · rw [if_pos h, h]; rfl
  · rw [if_neg h]; rfl
theorem lenO_dv (b n : Nat) : lenO (dv b n) = some n := by
  unfold dv
  by_cases h : n = 0
  · rw [if_pos h, h]; rfl
  · rw [if_neg h]; rfl
theorem de_known (b n : Nat) : (de b n).known = true := by unfold de; split <;> rfl
theorem dv_known (b n : Nat) : (dv b n).known = true := by unfold dv; split <;> rfl
theorem de_one (b n : Nat) : (de b n).one = true := by unfold de; split <;> rfl
theorem dv_one (b n : Nat) : (dv b n).one = true := by unfold dv; split <;> rfl
theorem de_ren (b n : Nat) (g : Nat → Nat) : ren g (de b n) = de (g b) n := by unfold de; split <;> rfl
theorem dv_ren (b n : Nat) (g : Nat → Nat) : ren g (dv b n) = dv (g b) n := by unfold dv; split <;> rfl
def rob (g : Nat → Nat) (n : Nat) : Option Blk := if n = 0 then none else some ⟨.ro, scs n g⟩
theorem rob_pos {g : Nat → Nat} {n : Nat} (h : 0 < n) : rob g n = some ⟨.ro, scs n g⟩ := if_neg (by omega)
attribute [local go_sem ↓] ecs_take_add ecs_drop_add lc_take_add lc_drop_add lenO_de lenO_dv de_known dv_known de_one dv_one de_ren dv_ren
end
end Go.Vs.Tryd
namespace Go.Vs.Tryd
def fo (a b : Nat → Nat) (n k : Nat) (g : Nat → Nat) : Nat → Nat := fun j => (g j * a (n - 1 - k) + g (j + 2 ^ k) * b (n - 1 - k)) % ell
def gl (a b : Nat → Nat) (n : Nat) : Nat → (Nat → Nat) → Nat → Nat
  | 0, g => g
  | k + 1, g => gl a b n k (fo a b n k g)
end Go.Vs.Tryd
namespace Go.Vs.Tryd
open Go.Proofs
variable {G : Nat → List V}
set_option linter.unusedSimpArgs false
attribute [local go_sem] lenO_nils lenO_sl sliceAtV Int.sub_zero List.length_append List.all_append ge_iff_le gt_iff_lt Int.natCast_nonneg Int.toNat_natCast Nat.mul_one b_and_ll b_shr_ll b_mul_ll b_add_ll b_or_ll b_shl_ll pick_ll pick_lc pick_bb driveS stopV Option.isSome_some Option.isSome_none Kind.m Kind.w Kind.g look_ro look_rw look_grow drive stepV exo expo evs fillV isNil nilKind eqV eqL optA optM sliceAtV ev kn ldc stc splice appV srcV lenV setd wantV exitV rvs rv one List.length_cons List.length_nil List.cons_append List.nil_append List.append_nil List.replicate List.getD_cons_zero List.getD_cons_succ List.set_cons_zero List.set_cons_succ List.getElem?_cons_zero List.getElem?_cons_succ List.getElem?_nil List.take_succ_cons List.take_zero List.take_nil List.drop_succ_cons List.drop_zero List.drop_nil List.all_cons List.all_nil List.any_cons List.any_nil Bool.and_true Bool.true_and Bool.and_self Option.map_some Option.map_none Option.bind_some Option.some.injEq Nat.add_zero Nat.zero_add Int.toNat_zero Int.toNat_one Int.zero_add Int.add_zero if_true if_false ite_true ite_false and_true true_and and_self ne_eq not_false_eq_true not_true_eq_false decide_true decide_false Bool.false_eq_true Bool.not_true Bool.not_false beq_self_eq_true BEq.rfl Bool.not_eq_true Nat.le_refl Int.le_refl Nat.zero_le List.foldl List.map_cons List.map_nil Prod.mk.injEq Int.cast_ofNat_Int Int.zero_le_ofNat b_add_cc b_add_cl b_add_lc b_mul_cc b_mul_cl b_mul_lc b_sub_cc b_sub_cl b_sub_lc b_and_cc b_and_cl b_and_lc b_or_cc b_or_cl b_or_lc b_xor_cc b_xor_cl b_xor_lc b_andNot_cc b_andNot_cl b_andNot_lc b_shr_cc b_shr_cl b_shr_lc b_shl_cc b_shl_cl b_shl_lc b_lss b_leq b_gtr b_geq b_add_i b_sub_i b_mul_i beq_cc beq_cl beq_lc beq_ll b_quo_i b_rem_i neg_u64 wrap_i64 driveD stepD idsAt idOf maskH_nil restore_nil restore_mask List.filterMap_nil List.filterMap_cons VOp.looks VOp.makes exA cells_agg cells_int cells_bool cells_str cells_nilp cells_ptr cells_glob cells_nils cells_sl cells_nilf cells_fn cells_nili cells_ifc known_agg known_tup known_int known_bool known_str known_nilp known_ptr known_glob known_nils known_sl known_nilf known_fn known_nili known_ifc known_unk one_agg one_tup one_int one_bool one_str one_nilp one_ptr one_glob one_nils one_sl one_nilf one_fn one_nili one_ifc asK_int asN_int asB_bool asS_str asG_agg asT_tup
section
attribute [local go_sem ↓] lc_len lc_take lc_drop lc_known lc_one lc_rens lc_cells lw_known lw_agg lw_asG scs_known scs_one scs_len
attribute [local go_sem] lt_nat lt_natl lt_lnat lt_ll bool_tf bool_ft
attribute [local go_sem ↓] ecs_len ecs_take ecs_drop ecs_known ecs_one ecs_rens ecs_fit ecs_cells ew_known ew_agg ew_asG ecs_kind ecs_k ecs_l ers_known ers_one ers_len ers_rens ers_fit
attribute [local go_sem ↓] ecs_take_add ecs_drop_add lc_take_add lc_drop_add lenO_de lenO_dv de_known dv_known de_one dv_one de_ren dv_ren
set_option maxRecDepth 100000
set_option maxHeartbeats 1000000
theorem fit_append (g : Nat → Nat) : ∀ {a a' b b' : List V}, fit g a a' → fit g b b' → fit g (a ++ b) (a' ++ b')
  | [], [], _, _, _, h => h
  | _ :: _, _ :: _, _, _, h, k => ⟨h.1, fit_append g h.2 k⟩
  | [], _ :: _, _, _, h, _ => h.elim
  | _ :: _, [], _, _, h, _ => h.elim
theorem fit_unk (g : Nat → Nat) : ∀ (l : List V) {n : Nat}, l.length = n → fit g (List.replicate n .unk) l
  | [], n, h => by simp at h; subst h; exact trivial
  | v :: l, n, h => by
    obtain ⟨m, rfl⟩ : ∃ m, n = m + 1 := ⟨n - 1, by simp at h; omega⟩
    exact ⟨.inl rfl, fit_unk g l (by simpa using h)⟩
noncomputable def pl (Lf Rf us : Nat → Nat) (N : Nat) : Nat → Nat → Nat
  | 0, P => P
  | m + 1, P => pl Lf Rf us N m (((Lf (N - 1 - m) * (us (N - 1 - m) * us (N - 1 - m) % ell) % ell + P) % ell + Rf (N - 1 - m) * (linv (us (N - 1 - m)) * linv (us (N - 1 - m)) % ell) % ell) % ell)
theorem wrB_rob (f : Nat → Nat) (n : Nat) : wrB (rob f n) = false := by unfold rob; split <;> rfl
theorem wrB_eb (f : Nat → Nat) (n : Nat) : wrB (eb f n) = false := by unfold eb; split <;> rfl
end
section
attribute [local go_sem ↓] lc_len lc_take lc_drop lc_known lc_one lc_rens lc_cells lw_known lw_agg lw_asG scs_known scs_one scs_len
attribute [local go_sem ↓] lc_take_add lc_drop_add
attribute [local go_sem] bool_tf bool_ft
set_option maxRecDepth 100000
set_option maxHeartbeats 1000000
def t3 (n : Nat) (x : Nat) (y z : Nat → Nat) (j : Nat) : Nat := if j = 0 then x else if j < 1 + n then y (j - 1) else z (j - 1 - n)
end
section
attribute [local go_sem ↓] lc_len lc_take lc_drop lc_known lc_one lc_rens lc_cells lw_known lw_agg lw_asG scs_known scs_one scs_len
attribute [local go_sem] lt_nat lt_natl lt_lnat lt_ll bool_tf bool_ft
attribute [local go_sem ↓] ecs_len ecs_take ecs_drop ecs_known ecs_one ecs_rens ecs_fit ecs_cells ew_known ew_agg ew_asG ecs_kind ecs_k ecs_l ers_known ers_one ers_len ers_rens ers_fit
set_option maxRecDepth 100000
set_option maxHeartbeats 1000000
def ivl (i n m : Nat) (z : Bool) : V := if z = true then .nils else .sl i 0 n (.exact m)
def ivb (f : Nat → Nat) (n : Nat) (z : Bool) : Option Blk := if z = true then none else some ⟨.ro, scs n f⟩
def Ok (n m : Nat) (z : Bool) : Prop := n ≤ m ∧ (z = true → n = 0)
theorem ivl_ren (i n m : Nat) (z : Bool) (g : Nat → Nat) : ren g (ivl i n m z) = ivl (g i) n m z := by cases z <;> rfl
theorem ivl_known (i n m : Nat) (z : Bool) : (ivl i n m z).known = true := by cases z <;> rfl
theorem ivl_one (i n m : Nat) (z : Bool) : (ivl i n m z).one = true := by cases z <;> rfl
theorem wrB_ivb (f : Nat → Nat) (n : Nat) (z : Bool) : wrB (ivb f n z) = false := by cases z <;> rfl
theorem ebg_map (f g' : Nat → Nat) (n : Nat) : (ebg f n).map (renB g') = ebg f n := by
  unfold ebg
  split
  · rfl
  · simp only [Option.map_some, renB, ers_rens]
attribute [local go_sem ↓] ivl_known ivl_one lc_take_add lc_drop_add ecs_take_add ecs_drop_add de_known de_one
theorem puts_ro {g : Nat → Nat} : ∀ {h' h'' : Heap} {μ : List Nat} {h : Heap}, h'.all (fun b => !wrB b) = true → h'.length = μ.length → h'.length ≤ h''.length → puts g h' h'' μ h = h ++ (h''.drop h'.length).map (Option.map (renB g))
  | [], h'', μ, h, _, _, _ => by simp [puts]
  | b :: h', [], μ, h, _, _, h3 => by simp at h3
  | b :: h', c :: h'', [], h, _, h2, _ => by simp at h2
  | b :: h', c :: h'', i :: μ, h, h1, h2, h3 => by
    simp only [List.all_cons, Bool.and_eq_true, Bool.not_eq_true'] at h1
    simp only [puts, h1.1, Bool.false_eq_true, if_false, List.length_cons, List.drop_succ_cons]
    exact puts_ro h1.2 (by simpa using h2) (by simpa using h3)
theorem hfit_one {g : Nat → Nat} {p : Nat} {h : Heap} {f : Nat → Nat} {n : Nat} {z : Bool} (hp : h[p]? = some (ivb f n z)) : hfit g h [p] [ivb f n z] := by
  cases z
  · simp only [hfit, hp]
    refine ⟨?_, trivial⟩
    show (Kind.ro = Kind.ro ∨ _) ∧ fit g (scs n f) (scs n f)
    exact ⟨.inl rfl, fit_same (scs_rens ..)⟩
  · exact ⟨trivial, trivial⟩
theorem de_cells (b n : Nat) : cellsOf (de b n) = [de b n] := by unfold de; split <;> rfl
def bfit (g : Nat → Nat) : Option Blk → Option Blk → Prop
  | none, _ => True
  | some b1, some b => (b1.kind = b.kind ∨ b1.kind = .ro ∧ b.kind.m = true) ∧ fit g b1.cells b.cells
  | some _, none => False
theorem hfit_cons {g : Nat → Nat} {h : Heap} {i : Nat} {μ : List Nat} {b : Option Blk} {h' : Heap} {c : Option Blk} (hc : h[i]? = some c) (hb : bfit g b c) (hr : hfit g h μ h') : hfit g h (i :: μ) (b :: h') := by
  cases b with
  | none => exact ⟨trivial, hr⟩
  | some b1 =>
    cases c with
    | none => exact hb.elim
    | some c => simp only [hfit, hc]; exact ⟨hb, hr⟩
theorem hfit_cons_none {g : Nat → Nat} {h : Heap} {i : Nat} {μ : List Nat} {h' : Heap} (hr : hfit g h μ h') : hfit g h (i :: μ) (none :: h') := ⟨trivial, hr⟩
theorem hfit_nil {g : Nat → Nat} {h : Heap} : hfit g h [] [] := trivial
end
end Go.Vs.Tryd
namespace Go.Vs.Tryd
instance nzell : NeZero ell := ⟨by decide⟩
end Go.Vs.Tryd
namespace Go.Vs.Tryd
open Go.Proofs
variable {G : Nat → List V}
set_option linter.unusedSimpArgs false
attribute [local go_sem] lenO_nils lenO_sl sliceAtV Int.sub_zero List.length_append List.all_append ge_iff_le gt_iff_lt Int.natCast_nonneg Int.toNat_natCast Nat.mul_one b_and_ll b_shr_ll b_mul_ll b_add_ll b_or_ll b_shl_ll pick_ll pick_lc pick_bb driveS stopV Option.isSome_some Option.isSome_none Kind.m Kind.w Kind.g look_ro look_rw look_grow drive stepV exo expo evs fillV isNil nilKind eqV eqL optA optM sliceAtV ev kn ldc stc splice appV srcV lenV setd wantV exitV rvs rv one List.length_cons List.length_nil List.cons_append List.nil_append List.append_nil List.replicate List.getD_cons_zero List.getD_cons_succ List.set_cons_zero List.set_cons_succ List.getElem?_cons_zero List.getElem?_cons_succ List.getElem?_nil List.take_succ_cons List.take_zero List.take_nil List.drop_succ_cons List.drop_zero List.drop_nil List.all_cons List.all_nil List.any_cons List.any_nil Bool.and_true Bool.true_and Bool.and_self Option.map_some Option.map_none Option.bind_some Option.some.injEq Nat.add_zero Nat.zero_add Int.toNat_zero Int.toNat_one Int.zero_add Int.add_zero if_true if_false ite_true ite_false and_true true_and and_self ne_eq not_false_eq_true not_true_eq_false decide_true decide_false Bool.false_eq_true Bool.not_true Bool.not_false beq_self_eq_true BEq.rfl Bool.not_eq_true Nat.le_refl Int.le_refl Nat.zero_le List.foldl List.map_cons List.map_nil Prod.mk.injEq Int.cast_ofNat_Int Int.zero_le_ofNat b_add_cc b_add_cl b_add_lc b_mul_cc b_mul_cl b_mul_lc b_sub_cc b_sub_cl b_sub_lc b_and_cc b_and_cl b_and_lc b_or_cc b_or_cl b_or_lc b_xor_cc b_xor_cl b_xor_lc b_andNot_cc b_andNot_cl b_andNot_lc b_shr_cc b_shr_cl b_shr_lc b_shl_cc b_shl_cl b_shl_lc b_lss b_leq b_gtr b_geq b_add_i b_sub_i b_mul_i beq_cc beq_cl beq_lc beq_ll b_quo_i b_rem_i neg_u64 wrap_i64 driveD stepD idsAt idOf maskH_nil restore_nil restore_mask List.filterMap_nil List.filterMap_cons VOp.looks VOp.makes exA cells_agg cells_int cells_bool cells_str cells_nilp cells_ptr cells_glob cells_nils cells_sl cells_nilf cells_fn cells_nili cells_ifc known_agg known_tup known_int known_bool known_str known_nilp known_ptr known_glob known_nils known_sl known_nilf known_fn known_nili known_ifc known_unk one_agg one_tup one_int one_bool one_str one_nilp one_ptr one_glob one_nils one_sl one_nilf one_fn one_nili one_ifc asK_int asN_int asB_bool asS_str asG_agg asT_tup
section
attribute [local go_sem ↓] lc_len lc_take lc_drop lc_known lc_one lc_rens lc_cells lw_known lw_agg lw_asG scs_known scs_one scs_len
attribute [local go_sem] lt_nat lt_natl lt_lnat lt_ll bool_tf bool_ft
attribute [local go_sem ↓] ecs_len ecs_take ecs_drop ecs_known ecs_one ecs_rens ecs_fit ecs_cells ew_known ew_agg ew_asG ecs_kind ecs_k ecs_l ers_known ers_one ers_len ers_rens ers_fit
set_option maxRecDepth 100000
set_option maxHeartbeats 1000000
def forg : List V → List V → Prop
  | [], [] => True
  | v :: r, u :: s => (v = .unk ∨ v = u) ∧ forg r s
  | _, _ => False
theorem forg_get : ∀ {l m : List V}, forg l m → l.length = m.length ∧ ∀ (i : Nat) v, l[i]? = some v → v ≠ .unk → m[i]? = some v
  | [], [], _ => ⟨rfl, fun i v h => by simp at h⟩
  | v :: r, u :: s, h => by
    obtain ⟨h1, h2⟩ := forg_get h.2
    refine ⟨by simp [h1], fun i x hx hne => ?_⟩
    cases i with
    | zero =>
      obtain rfl : v = x := by simpa using hx
      rcases h.1 with e | e
      · exact absurd e hne
      · simp [e]
    | succ i => exact h2 i x (by simpa using hx) hne
theorem run_tmps {P : Program} {f : FuncId} {n : Nat} {Q : V → Heap → Prop} {k : List TI} {l m : List V} {H : Heap} (ht : forg l m) (h : Run P G f n Q (k, ⟨l, H⟩)) : Run P G f n Q (k, ⟨m, H⟩) := by
  intro ρ₀ h₀ w₀ ρ a w hn hk hsim htr hd
  obtain ⟨e1, e2⟩ := forg_get ht
  exact h ρ₀ h₀ w₀ ρ a w hn hk hsim ⟨by rw [← htr.1]; exact e1, fun t v hv hne => htr.2 t _ (e2 t v hv hne) hne⟩ hd
def trs (m : Nat) (K P : Nat → Nat) : List V := row m fun j => lc (K j) ++ lc (P j)
theorem trs_len (m : Nat) (K P : Nat → Nat) : (trs m K P).length = m * 8 := row_len (s := 8) (e := fun j => lc (K j) ++ lc (P j)) (fun _ => rfl) m
theorem trs_known (m : Nat) (K P : Nat → Nat) : (trs m K P).all V.known = true := row_all (fun _ => rfl) m
attribute [local go_sem ↓] trs_len trs_known
end
section
attribute [local go_sem ↓] lc_len lc_take lc_drop lc_known lc_one lc_rens lc_cells lw_known lw_agg lw_asG scs_known scs_one scs_len
attribute [local go_sem] lt_nat lt_natl lt_lnat lt_ll bool_tf bool_ft
set_option maxRecDepth 100000
set_option maxHeartbeats 1000000
theorem run_for {P : Program} {f : FuncId} {n : Nat} {md : Md} {Q : V → Heap → Prop} {k : List TI} (S : Nat → St) (N : Nat) (step : ∀ i, i < N → RunM P G f n md Q (k, S (i + 1)) → RunM P G f n md Q (k, S i)) (last : RunM P G f n md Q (k, S N)) : RunM P G f n md Q (k, S 0) := by
  have : ∀ j i, i + j = N → RunM P G f n md Q (k, S i) := by
    intro j
    induction j with
    | zero =>
      intro i h
      obtain rfl : i = N := (by omega)
      exact last
    | succ j ih => intro i h; exact step i (by omega) (ih (i + 1) (by omega))
  exact this N 0 (by omega)
end
end Go.Vs.Tryd
namespace Go.Vs.Tryd
open Go.Proofs
variable {G : Nat → List V}
set_option linter.unusedSimpArgs false
attribute [local go_sem] lenO_nils lenO_sl sliceAtV Int.sub_zero List.length_append List.all_append ge_iff_le gt_iff_lt Int.natCast_nonneg Int.toNat_natCast Nat.mul_one b_and_ll b_shr_ll b_mul_ll b_add_ll b_or_ll b_shl_ll pick_ll pick_lc pick_bb driveS stopV Option.isSome_some Option.isSome_none Kind.m Kind.w Kind.g look_ro look_rw look_grow drive stepV exo expo evs fillV isNil nilKind eqV eqL optA optM sliceAtV ev kn ldc stc splice appV srcV lenV setd wantV exitV rvs rv one List.length_cons List.length_nil List.cons_append List.nil_append List.append_nil List.replicate List.getD_cons_zero List.getD_cons_succ List.set_cons_zero List.set_cons_succ List.getElem?_cons_zero List.getElem?_cons_succ List.getElem?_nil List.take_succ_cons List.take_zero List.take_nil List.drop_succ_cons List.drop_zero List.drop_nil List.all_cons List.all_nil List.any_cons List.any_nil Bool.and_true Bool.true_and Bool.and_self Option.map_some Option.map_none Option.bind_some Option.some.injEq Nat.add_zero Nat.zero_add Int.toNat_zero Int.toNat_one Int.zero_add Int.add_zero if_true if_false ite_true ite_false and_true true_and and_self ne_eq not_false_eq_true not_true_eq_false decide_true decide_false Bool.false_eq_true Bool.not_true Bool.not_false beq_self_eq_true BEq.rfl Bool.not_eq_true Nat.le_refl Int.le_refl Nat.zero_le List.foldl List.map_cons List.map_nil Prod.mk.injEq Int.cast_ofNat_Int Int.zero_le_ofNat b_add_cc b_add_cl b_add_lc b_mul_cc b_mul_cl b_mul_lc b_sub_cc b_sub_cl b_sub_lc b_and_cc b_and_cl b_and_lc b_or_cc b_or_cl b_or_lc b_xor_cc b_xor_cl b_xor_lc b_andNot_cc b_andNot_cl b_andNot_lc b_shr_cc b_shr_cl b_shr_lc b_shl_cc b_shl_cl b_shl_lc b_lss b_leq b_gtr b_geq b_add_i b_sub_i b_mul_i beq_cc beq_cl beq_lc beq_ll b_quo_i b_rem_i neg_u64 wrap_i64 driveD stepD idsAt idOf maskH_nil restore_nil restore_mask List.filterMap_nil List.filterMap_cons VOp.looks VOp.makes exA cells_agg cells_int cells_bool cells_str cells_nilp cells_ptr cells_glob cells_nils cells_sl cells_nilf cells_fn cells_nili cells_ifc known_agg known_tup known_int known_bool known_str known_nilp known_ptr known_glob known_nils known_sl known_nilf known_fn known_nili known_ifc known_unk one_agg one_tup one_int one_bool one_str one_nilp one_ptr one_glob one_nils one_sl one_nilf one_fn one_nili one_ifc asK_int asN_int asB_bool asS_str asG_agg asT_tup true_or or_true false_or or_false
theorem uniq_nodup {μ : List Nat} {h' : Heap} (hn : μ.Nodup) : uniq μ h' := by
  unfold uniq
  refine List.pairwise_iff_getElem.2 fun i j hi hj hij _ => ?_
  simp only [List.getElem_zip]
  exact List.pairwise_iff_getElem.1 hn i j _ _ hij
theorem bfit_g {f : Nat → Nat} {k : Kind} {c : List V} (h : rens f c = c) : bfit f (some ⟨k, c⟩) (some ⟨k, c⟩) := ⟨.inl rfl, fit_same h⟩
theorem bfit_ro {f : Nat → Nat} {k : Kind} {c c' : List V} (h : rens f c = c') (hk : k.m = true := by rfl) : bfit f (some ⟨.ro, c⟩) (some ⟨k, c'⟩) := ⟨.inr ⟨rfl, hk⟩, by rw [← h]; exact fit_rens f c⟩
theorem bfit_rw {f : Nat → Nat} {k : Kind} {c c' : List V} (h : rens f c = c') : bfit f (some ⟨k, c⟩) (some ⟨k, c'⟩) := ⟨.inl rfl, by rw [← h]; exact fit_rens f c⟩
theorem gmap_pre {L j : Nat} {μ : List Nat} (k : Nat) (rest : List Nat) (e : μ = List.range k ++ rest) (hj : j < k) : gmap μ L j = j := gmap_lt (by rw [e, List.getElem?_append_left (by simpa using hj), List.getElem?_range hj])
theorem rens_row (f : Nat → Nat) (e : Nat → List V) : ∀ n, rens f (row n e) = row n fun j => rens f (e j)
  | 0 => rfl
  | n + 1 => by rw [row, row, rens_append, rens_row f e n]
theorem run_end_drop {P : Program} {f : FuncId} {n : Nat} {Q : V → Heap → Prop} {fn : Func} (hf : P.funcs[f]? = some fn) (hc : cRVs P fn.results.toList = some []) {st : St} (μ : List Nat) (h' : Heap) (h1 : μ.take n = List.range n) (h2 : ∀ i ∈ μ.drop n, n ≤ i)
    (hfit : hfit (gmap μ st.heap.length) st.heap μ h') (hu : uniq μ h') (hq : Q (.tup []) h') : Run P G f n Q ([], st) :=
  run_rename μ (st' := ⟨List.replicate st.tmps.length .unk, h'⟩) h1 h2 hfit hu (fit_unk _ _ rfl) (run_end hf hc (l := []) rfl hq)
end Go.Vs.Tryd
namespace Go.Vs.Tryd
open Go.Proofs
variable {G : Nat → List V}
set_option linter.unusedSimpArgs false
attribute [local go_sem] lenO_nils lenO_sl sliceAtV Int.sub_zero List.length_append List.all_append ge_iff_le gt_iff_lt Int.natCast_nonneg Int.toNat_natCast Nat.mul_one b_and_ll b_shr_ll b_mul_ll b_add_ll b_or_ll b_shl_ll pick_ll pick_lc pick_bb driveS stopV Option.isSome_some Option.isSome_none Kind.m Kind.w Kind.g look_ro look_rw look_grow drive stepV exo expo evs fillV isNil nilKind eqV eqL optA optM sliceAtV ev kn ldc stc splice appV srcV lenV setd wantV exitV rvs rv one List.length_cons List.length_nil List.cons_append List.nil_append List.append_nil List.replicate List.getD_cons_zero List.getD_cons_succ List.set_cons_zero List.set_cons_succ List.getElem?_cons_zero List.getElem?_cons_succ List.getElem?_nil List.take_succ_cons List.take_zero List.take_nil List.drop_succ_cons List.drop_zero List.drop_nil List.all_cons List.all_nil List.any_cons List.any_nil Bool.and_true Bool.true_and Bool.and_self Option.map_some Option.map_none Option.bind_some Option.some.injEq Nat.add_zero Nat.zero_add Int.toNat_zero Int.toNat_one Int.zero_add Int.add_zero if_true if_false ite_true ite_false and_true true_and and_self ne_eq not_false_eq_true not_true_eq_false decide_true decide_false Bool.false_eq_true Bool.not_true Bool.not_false beq_self_eq_true BEq.rfl Bool.not_eq_true Nat.le_refl Int.le_refl Nat.zero_le List.foldl List.map_cons List.map_nil Prod.mk.injEq Int.cast_ofNat_Int Int.zero_le_ofNat b_add_cc b_add_cl b_add_lc b_mul_cc b_mul_cl b_mul_lc b_sub_cc b_sub_cl b_sub_lc b_and_cc b_and_cl b_and_lc b_or_cc b_or_cl b_or_lc b_xor_cc b_xor_cl b_xor_lc b_andNot_cc b_andNot_cl b_andNot_lc b_shr_cc b_shr_cl b_shr_lc b_shl_cc b_shl_cl b_shl_lc b_lss b_leq b_gtr b_geq b_add_i b_sub_i b_mul_i beq_cc beq_cl beq_lc beq_ll b_quo_i b_rem_i neg_u64 wrap_i64 driveD stepD idsAt idOf maskH_nil restore_nil restore_mask List.filterMap_nil List.filterMap_cons VOp.looks VOp.makes exA cells_agg cells_int cells_bool cells_str cells_nilp cells_ptr cells_glob cells_nils cells_sl cells_nilf cells_fn cells_nili cells_ifc known_agg known_tup known_int known_bool known_str known_nilp known_ptr known_glob known_nils known_sl known_nilf known_fn known_nili known_ifc known_unk one_agg one_tup one_int one_bool one_str one_nilp one_ptr one_glob one_nils one_sl one_nilf one_fn one_nili one_ifc asK_int asN_int asB_bool asS_str asG_agg asT_tup true_or or_true false_or or_false
attribute [local go_sem_proc] Nat.reduceAdd Nat.reduceSub Nat.reduceLeDiff Nat.reduceMul Nat.reduceLT Nat.reduceEqDiff Int.reduceLT Int.reduceLE Int.reduceAdd Int.reduceSub Int.reduceMul Int.reduceToNat reduceIte reduceCtorEq Nat.reduceBEq
section
attribute [local go_sem ↓] lc_len lc_take lc_drop lc_known lc_one lc_rens lc_cells lw_known lw_agg lw_asG
attribute [local go_sem ↓] brow_len brow_known brow_one brow_rens
attribute [local go_sem] lt_nat lt_natl lt_lnat lt_ll
set_option maxRecDepth 100000
set_option maxHeartbeats 2000000
def bw (f : Nat → Nat) : V := .agg (brow 32 f)
theorem bw_plain (f g : Nat → Nat) : ren (fun j => g j) (bw f) = bw f := by simp only [bw, ren, brow_rens]
theorem bw_known (f : Nat → Nat) : (bw f).known = true := rfl
theorem bw_agg (f : Nat → Nat) : V.agg (brow 32 f) = bw f := rfl
theorem bw_cells (f : Nat → Nat) : cellsOf (bw f) = brow 32 f := rfl
theorem bw_asG (f : Nat → Nat) : asG (bw f) = some (brow 32 f) := rfl
attribute [local go_sem ↓] bw_known bw_agg bw_cells bw_asG
theorem zero32 : [V.int .u8 (nl 0), .int .u8 (nl 0), .int .u8 (nl 0), .int .u8 (nl 0), .int .u8 (nl 0), .int .u8 (nl 0), .int .u8 (nl 0), .int .u8 (nl 0), .int .u8 (nl 0), .int .u8 (nl 0), .int .u8 (nl 0), .int .u8 (nl 0), .int .u8 (nl 0), .int .u8 (nl 0), .int .u8 (nl 0), .int .u8 (nl 0), .int .u8 (nl 0), .int .u8 (nl 0), .int .u8 (nl 0), .int .u8 (nl 0), .int .u8 (nl 0), .int .u8 (nl 0), .int .u8 (nl 0), .int .u8 (nl 0), .int .u8 (nl 0), .int .u8 (nl 0), .int .u8 (nl 0), .int .u8 (nl 0), .int .u8 (nl 0), .int .u8 (nl 0), .int .u8 (nl 0), .int .u8 (nl 0)] = brow 32 fun _ => 0 := rfl
theorem brow_drop32 (f : Nat → Nat) : (brow 32 f).drop 32 = [] := List.drop_eq_nil_of_le (by rw [brow_len]; exact Nat.le_refl _)
theorem wrap_u8 (n : Nat) : IntKind.u8.wrap (n : Int) = ((n % 256 : Nat) : Int) := by
  have : IntKind.u8.wrap (n : Int) = (n : Int) % 256 := by simp [IntKind.wrap, IntKind.signed, IntKind.bits]
  rw [this]
  omega
theorem quo8 (i : Nat) (hi : i < 32) : IntKind.i64.wrap ((i : Int).tdiv 8) = ((i / 8 : Nat) : Int) := by
  rw [show (i : Int).tdiv 8 = ((i / 8 : Nat) : Int) from (Int.ofNat_tdiv i 8).symm, wrap_i64 (by omega) (by omega)]
theorem bq8 (i : Nat) (hi : i < 32) : binI .quo .i64 (i : Int) .i64 8 = some (.int .i64 ((i / 8 : Nat) : Int)) := by rw [b_quo_i _ _ (by decide), quo8 i hi]
theorem br8 (i : Nat) : binI .rem .i64 (i : Int) .i64 8 = some (.int .i64 ((i % 8 : Nat) : Int)) := by rw [b_rem_i _ _ (by decide), show (i : Int).tmod 8 = ((i % 8 : Nat) : Int) from (Int.ofNat_tmod i 8).symm]
theorem mul8 (i : Nat) (hi : i < 32) : IntKind.i64.wrap (8 * ((i % 8 : Nat) : Int)) = ((8 * (i % 8) : Nat) : Int) := by
  rw [wrap_i64 (by omega) (by omega)]
  omega
theorem enc_u8 (A i : Nat) : IntKind.u8.wrap ((r64 (lmb A (i / 8)) (8 * (i % 8)) : Nat) : Int) = ((enc A i : Nat) : Int) := by
  rw [wrap_u8]
  unfold r64 enc
  rw [show min (8 * (i % 8)) 64 = 8 * (i % 8) by omega]
theorem ref_encode (A : Nat) {h : Heap} {R : V → Heap → Prop} (hQ : R (bw (enc A)) h) : VCall Tryd.prog G 17 [lw A] h R := by
  refine vcall_plain (Q := fun v => v = bw (enc A)) ?_ (fun g => by simp only [rens, lw_plain, ew_plain, ren]) (fun v g hv => by subst hv; exact bw_plain _ _) (fun v hv => by subst hv; exact hQ)
  refine vcall_body Tryd.func17 nm17 code17 nt17 ?_
  refine run_driveS 80 ?_
  simp only [go_sem, v17, v17_0, v17_1, v17_2, v17_8, zero32]
  refine run_rename [0, 1, 2] (st' := ⟨[.unk, .ptr 0 0, .ptr 1 0, .ptr 2 0, .int .i64 (0 : Nat)] ++ List.replicate 16 .unk, [some ⟨.rw, lc A⟩, some ⟨.rw, brow 32 fun _ => 0⟩, some ⟨.rw, brow 32 fun j => if j < 0 then enc A j else 0⟩]⟩) rfl (by simp) ?_ ?_ ?_ (run_for (fun i => ⟨[.unk, .ptr 0 0, .ptr 1 0, .ptr 2 0, .int .i64 (i : Nat)] ++ List.replicate 16 .unk, [some ⟨.rw, lc A⟩, some ⟨.rw, brow 32 fun _ => 0⟩, some ⟨.rw, brow 32 fun j => if j < i then enc A j else 0⟩]⟩) 32 (fun i hi ih => ?_) ?_)
  · exact hfit_cons rfl (bfit_g (lc_rens _ _)) (hfit_cons rfl (bfit_g (brow_rens ..)) (hfit_cons rfl (bfit_g (brow_rens ..)) hfit_nil))
  · simp [uniq, wrB]
  · simp only [go_sem, hfit, lc_fit, scs_fit, fit, ren, gmap, lw_plain, true_or, or_true]
  · have h0 : ((i : Int) < 32) = True := eq_true (by omega)
    have hq4 : (((i / 8 : Nat) : Int) < 4) = True := eq_true (by omega)
    have hq := bq8 i hi
    have hr := br8 i
    have hm := mul8 i hi
    have hc := enc_u8 A i
    have hg := lc_lmb A (q := i / 8) (by omega)
    have hi1 : (i + 1 ≤ 32) = True := eq_true (by omega)
    have hs := brow_set 32 (fun j => if j < i then enc A j else 0) (fun j => if j < i + 1 then enc A j else 0) (i := i) (v := enc A i) hi (by simp) (fun j _ hj => by
      by_cases e : j < i
      · rw [if_pos e, if_pos (by omega)]
      · rw [if_neg e, if_neg (by omega)])
    have hw : IntKind.i64.wrap ((i : Int) + 1) = ((i + 1 : Nat) : Int) := by rw [wrap_i64 (by omega) (by omega)]; omega
    refine run_loop_eq v17_7.eq_1 ?_
    refine run_driveS 80 ?_
    simp only [go_sem, v17_3, v17_5, v17_4, v17_6, h0, hq, hq4, hr, hm, hc, hg, hi1, hs, hw]
    refine run_tmps ?_ ih
    simp only [go_sem, forg, true_or, or_true]
  · have h0 : (((32 : Nat) : Int) < (32 : Int)) = False := eq_false (by omega)
    refine run_loop_eq v17_7.eq_1 ?_
    refine run_driveS 80 ?_
    simp only [go_sem, v17_3, h0]
    refine run_exit rfl ?_
    have hb : (brow 32 fun j => if j < 32 then enc A j else 0) = brow 32 (enc A) := brow_congr fun j hj => if_pos hj
    rw [hb]
    refine run_driveS 80 ?_
    simp only [go_sem, v17_9, brow_take, brow_drop32]
    refine run_ret_drop Tryd.func17 res17 [] (bw (enc A)) [] rfl (by simp) trivial (by simp [uniq]) ?_ ⟨rfl, rfl⟩
    simp only [go_sem, rr17, bw_plain, brow_take]
end
section
attribute [local go_sem ↓] lc_len lc_take lc_drop lc_known lc_one lc_rens lc_cells lw_known lw_agg lw_asG
attribute [local go_sem ↓] brow_len brow_known brow_one brow_rens bw_known bw_agg bw_cells bw_asG
attribute [local go_sem] lt_nat lt_natl lt_lnat lt_ll
set_option maxRecDepth 100000
set_option maxHeartbeats 2000000
theorem encode (hG : G 3 = tbl) (A : Nat) (hA : A < 115792089237316195423570985008687907853269984665640564039457584007913129639936) {h : Heap} {R : V → Heap → Prop} (hQ : R (bw (enc (A % ell))) h) : VCall Tryd.prog G 42 [lw A] h R := by
  refine vcall_plain (Q := fun v => v = bw (enc (A % ell))) ?_ (fun g => by simp only [rens, lw_plain, ew_plain, ren]) (fun v g hv => by subst hv; exact bw_plain _ _) (fun v hv => by subst hv; exact hQ)
  refine vcall_body Tryd.func42 nm42 code42 nt42 ?_
  refine run_driveS 80 ?_
  simp only [go_sem, v42, v42_0, zero32]
  refine run_driveS 80 ?_
  simp only [go_sem, v42_1]
  refine run_call' rfl ?_
  simp only [go_sem, calV]
  refine least' hG A hA ?_
  generalize A % ell = B
  refine run_driveS 80 ?_
  simp only [go_sem, v42_2, v42_3, v42_10, zero32]
  refine run_rename [0, 1, 2] (st' := ⟨[.unk, .ptr 0 0, .ptr 1 0, .ptr 2 0, .unk, .unk, .unk, .int .i64 (0 : Nat)] ++ List.replicate 15 .unk, [some ⟨.rw, lc B⟩, some ⟨.rw, brow 32 fun _ => 0⟩, some ⟨.rw, brow 32 fun j => if j < 0 then enc B j else 0⟩]⟩) rfl (by simp) ?_ ?_ ?_ (run_for (fun i => ⟨[.unk, .ptr 0 0, .ptr 1 0, .ptr 2 0, .unk, .unk, .unk, .int .i64 (i : Nat)] ++ List.replicate 15 .unk, [some ⟨.rw, lc B⟩, some ⟨.rw, brow 32 fun _ => 0⟩, some ⟨.rw, brow 32 fun j => if j < i then enc B j else 0⟩]⟩) 32 (fun i hi ih => ?_) ?_)
  · exact hfit_cons rfl (bfit_g (lc_rens _ _)) (hfit_cons rfl (bfit_g (brow_rens ..)) (hfit_cons rfl (bfit_g (brow_rens ..)) hfit_nil))
  · simp [uniq, wrB]
  · simp only [go_sem, hfit, lc_fit, scs_fit, fit, ren, gmap, lw_plain, true_or, or_true]
  · have h0 : ((i : Int) < 32) = True := eq_true (by omega)
    have hq4 : (((i / 8 : Nat) : Int) < 4) = True := eq_true (by omega)
    have hq := bq8 i hi
    have hr := br8 i
    have hm := mul8 i hi
    have hc := enc_u8 B i
    have hg := lc_lmb B (q := i / 8) (by omega)
    have hi1 : (i + 1 ≤ 32) = True := eq_true (by omega)
    have hs := brow_set 32 (fun j => if j < i then enc B j else 0) (fun j => if j < i + 1 then enc B j else 0) (i := i) (v := enc B i) hi (by simp) (fun j _ hj => by
      by_cases e : j < i
      · rw [if_pos e, if_pos (by omega)]
      · rw [if_neg e, if_neg (by omega)])
    have hw : IntKind.i64.wrap ((i : Int) + 1) = ((i + 1 : Nat) : Int) := by rw [wrap_i64 (by omega) (by omega)]; omega
    refine run_loop_eq v42_9.eq_1 ?_
    refine run_driveS 80 ?_
    simp only [go_sem, v42_4, v42_7, v42_5, v42_6, v42_8, h0, hq, hq4, hr, hm, hc, hg, hi1, hs, hw]
    refine run_tmps ?_ ih
    simp only [go_sem, forg, true_or, or_true]
  · have h0 : (((32 : Nat) : Int) < (32 : Int)) = False := eq_false (by omega)
    refine run_loop_eq v42_9.eq_1 ?_
    refine run_driveS 80 ?_
    simp only [go_sem, v42_4, h0]
    refine run_exit rfl ?_
    have hb : (brow 32 fun j => if j < 32 then enc B j else 0) = brow 32 (enc B) := brow_congr fun j hj => if_pos hj
    rw [hb]
    refine run_driveS 80 ?_
    simp only [go_sem, v42_11, brow_take, brow_drop32]
    refine run_ret_drop Tryd.func42 res42 [] (bw (enc B)) [] rfl (by simp) trivial (by simp [uniq]) ?_ ⟨rfl, rfl⟩
    simp only [go_sem, rr42, bw_plain, brow_take]
theorem brow_idx (n : Nat) (f : Nat → Nat) {i : Nat} (h : i < n) : (brow n f)[i]? = some (.int .u8 (f i : Int)) := by
  have := brow_get' n f h
  cases e : (brow n f)[i]? with
  | none => rw [List.getElem?_eq_none_iff, brow_len] at e; omega
  | some v =>
    have h2 : ((brow n f).drop i).take 1 = [v] := by
      rw [List.take_one, List.head?_drop, e]; rfl
    rw [h2] at this
    simpa using this
def low (f : Nat → Nat) (a : Nat) : Nat → Nat
  | 0 => 0
  | n + 1 => low f a n + f (a + n) * 2 ^ (8 * n)
theorem low_lt {f : Nat → Nat} (h : ∀ j, f j < 256) (a : Nat) : ∀ n, low f a n < 2 ^ (8 * n)
  | 0 => by simp [low]
  | n + 1 => by
    have h1 := low_lt h a n
    have h2 := Nat.mul_le_mul_right (2 ^ (8 * n)) (show f (a + n) + 1 ≤ 256 by have := h (a + n); omega)
    rw [Nat.add_mul, Nat.one_mul] at h2
    rw [low, show 8 * (n + 1) = 8 * n + 8 by omega, Nat.pow_add]
    omega
theorem low_hor (f : Nat → Nat) (a : Nat) : low f a 8 = hor f a 8 := by
  simp only [low, hor, Nat.reduceMul, Nat.reducePow, Nat.add_zero, Nat.mul_zero, Nat.zero_add]
  simp only [Nat.add_assoc, Nat.reduceAdd]
  omega
theorem low_step {f : Nat → Nat} (h : ∀ j, f j < 256) (a n : Nat) (hn : n < 8) : o64 (low f a n) (l64 (f (a + n)) (8 * n)) = low f a (n + 1) := by
  have h1 := low_lt h a n
  have h2 := low_lt h a (n + 1)
  have h3 : 2 ^ (8 * (n + 1)) ≤ 18446744073709551616 := Nat.pow_le_pow_right (n := 2) (by decide) (show 8 * (n + 1) ≤ 64 by omega)
  have e : l64 (f (a + n)) (8 * n) = 2 ^ (8 * n) * f (a + n) := by
    unfold l64 w64
    rw [show min (8 * n) 64 = 8 * n by omega, Nat.mul_comm, Nat.mod_eq_of_lt]
    rw [low, Nat.mul_comm (f (a + n))] at h2
    omega
  rw [low, Nat.mul_comm (f (a + n))] at h2
  rw [e, o64_comm, or_add _ _ _ h1 (by omega), low, Nat.mul_comm (f (a + n)), Nat.add_comm]
def fb (f : Nat → Nat) (i : Nat) : List V := [.int .u64 (low f 0 (min 8 i) : Int), .int .u64 (low f 8 (min 8 (i - 8)) : Int), .int .u64 (low f 16 (min 8 (i - 16)) : Int), .int .u64 (low f 24 (min 8 (i - 24)) : Int)]
theorem fb_get (f : Nat → Nat) {i : Nat} (hi : i < 32) : ((fb f i).drop (i / 8)).take 1 = [.int .u64 (low f (8 * (i / 8)) (i % 8) : Int)] := by
  have h : i / 8 = 0 ∨ i / 8 = 1 ∨ i / 8 = 2 ∨ i / 8 = 3 := by omega
  rcases h with h | h | h | h <;> rw [h] <;> simp only [fb, List.drop_zero, List.drop_succ_cons, List.take_succ_cons, List.take_zero] <;> congr 4 <;> omega
theorem fb_set (f : Nat → Nat) {i : Nat} (hi : i < 32) : (fb f i).take (i / 8) ++ [.int .u64 (low f (8 * (i / 8)) (i % 8 + 1) : Int)] ++ (fb f i).drop (i / 8 + 1) = fb f (i + 1) := by
  have h : i / 8 = 0 ∨ i / 8 = 1 ∨ i / 8 = 2 ∨ i / 8 = 3 := by omega
  rcases h with h | h | h | h <;> rw [h]
  · simp only [fb, List.take_zero, List.nil_append, List.drop_succ_cons, List.drop_zero, List.cons_append, Nat.mul_zero, show i % 8 + 1 = min 8 (i + 1) by omega, show i - 8 = 0 by omega, show i + 1 - 8 = 0 by omega, show i - 16 = 0 by omega, show i + 1 - 16 = 0 by omega, show i - 24 = 0 by omega, show i + 1 - 24 = 0 by omega]
  · simp only [fb, List.take_succ_cons, List.take_zero, List.nil_append, List.drop_succ_cons, List.drop_zero, List.cons_append, Nat.mul_one, show i % 8 + 1 = min 8 (i + 1 - 8) by omega, show min 8 i = 8 by omega, show min 8 (i + 1) = 8 by omega, show i - 16 = 0 by omega, show i + 1 - 16 = 0 by omega, show i - 24 = 0 by omega, show i + 1 - 24 = 0 by omega]
  · simp only [fb, List.take_succ_cons, List.take_zero, List.nil_append, List.drop_succ_cons, List.drop_zero, List.cons_append, Nat.reduceMul, show i % 8 + 1 = min 8 (i + 1 - 16) by omega, show min 8 i = 8 by omega, show min 8 (i + 1) = 8 by omega, show min 8 (i - 8) = 8 by omega, show min 8 (i + 1 - 8) = 8 by omega, show i - 24 = 0 by omega, show i + 1 - 24 = 0 by omega]
  · simp only [fb, List.take_succ_cons, List.take_zero, List.nil_append, List.drop_succ_cons, List.drop_nil, List.append_nil, List.drop_zero, List.cons_append, Nat.reduceMul, show i % 8 + 1 = min 8 (i + 1 - 24) by omega, show min 8 i = 8 by omega, show min 8 (i + 1) = 8 by omega, show min 8 (i - 8) = 8 by omega, show min 8 (i + 1 - 8) = 8 by omega, show min 8 (i - 16) = 8 by omega, show min 8 (i + 1 - 16) = 8 by omega]
theorem fb_end {f : Nat → Nat} (h : ∀ j, f j < 256) : fb f 32 = lc (dec f) := by
  rw [← lc_dec h]
  simp only [fb, Nat.reduceSub, Nat.min_self, show min 8 32 = 8 from rfl, show min 8 24 = 8 from rfl, show min 8 16 = 8 from rfl, low_hor]
theorem fb_len (f : Nat → Nat) (i : Nat) : (fb f i).length = 4 := rfl
theorem fb_rens (f : Nat → Nat) (i : Nat) (g : Nat → Nat) : rens g (fb f i) = fb f i := by simp only [fb, rens, ren]
theorem wrap_byte {n : Nat} (h : n < 256) : IntKind.u64.wrap (n : Int) = (n : Int) := by rw [wrap_u64]; omega
theorem from_bytes (f : Nat → Nat) (hf : ∀ j, f j < 256) {h : Heap} {R : V → Heap → Prop} (hQ : R (lw (dec f)) h) : VCall Tryd.prog G 63 [bw f] h R := by
  refine vcall_plain (Q := fun v => v = lw (dec f)) ?_ (fun g => by simp only [rens, bw_plain]) (fun v g hv => by subst hv; exact lw_plain _ _) (fun v hv => by subst hv; exact hQ)
  refine vcall_body Tryd.func63 nm63 code63 nt63 ?_
  refine run_driveS 80 ?_
  simp only [go_sem, v63, v63_0, v63_1, v63_2, v63_9, brow_take, brow_drop32]
  refine run_rename [0, 1, 2] (st' := ⟨[.unk, .ptr 0 0, .ptr 1 0, .ptr 2 0, .unk, .unk, bw f, .int .i64 (0 : Nat)] ++ List.replicate 17 .unk, [some ⟨.rw, brow 32 f⟩, some ⟨.rw, lc 0⟩, some ⟨.rw, fb f 0⟩]⟩) rfl (by simp) ?_ ?_ ?_ (run_for (fun i => ⟨[.unk, .ptr 0 0, .ptr 1 0, .ptr 2 0, .unk, .unk, bw f, .int .i64 (i : Nat)] ++ List.replicate 17 .unk, [some ⟨.rw, brow 32 f⟩, some ⟨.rw, lc 0⟩, some ⟨.rw, fb f i⟩]⟩) 32 (fun i hi ih => ?_) ?_)
  · exact hfit_cons rfl (bfit_g (brow_rens ..)) (hfit_cons rfl (bfit_g (lc_rens ..)) (hfit_cons rfl (bfit_g (fb_rens ..)) hfit_nil))
  · simp [uniq, wrB]
  · simp only [go_sem, hfit, lc_fit, scs_fit, fit, ren, gmap, lw_plain, true_or, or_true, bw_plain]
  · have h0 : ((i : Int) < 32) = True := eq_true (by omega)
    have hq4 : (((i / 8 : Nat) : Int) < 4) = True := eq_true (by omega)
    have hq := bq8 i hi
    have hr := br8 i
    have hm := mul8 i hi
    have hx := brow_idx 32 f hi
    have hb := wrap_byte (hf i)
    have hg := fb_get f hi
    have hi1 : (i + 1 ≤ 32) = True := eq_true (by omega)
    have hi4 : (i / 8 + 1 ≤ 4) = True := eq_true (by omega)
    have ho := low_step hf (8 * (i / 8)) (i % 8) (by omega)
    rw [show 8 * (i / 8) + i % 8 = i by omega] at ho
    have hs := fb_set f hi
    have hl := fb_len f i
    have hw : IntKind.i64.wrap ((i : Int) + 1) = ((i + 1 : Nat) : Int) := by rw [wrap_i64 (by omega) (by omega)]; omega
    refine run_loop_eq v63_8.eq_1 ?_
    refine run_driveS 80 ?_
    simp only [go_sem, v63_3, v63_6, v63_4, h0, hx, hi1]
    refine run_drw (by kernel_rfl) ?_
    refine drun_drive 40 (p := (_, _)) ?_
    simp only [go_sem, v63_5, hq, hq4, hr, hm, hb, hg, hi4, ho, hs, hl]
    refine drun_end ?_
    refine run_driveS 80 ?_
    simp only [go_sem, v63_7, hw]
    refine run_tmps ?_ ih
    simp only [go_sem, forg, true_or, or_true]
  · have h0 : (((32 : Nat) : Int) < (32 : Int)) = False := eq_false (by omega)
    refine run_loop_eq v63_8.eq_1 ?_
    refine run_driveS 80 ?_
    simp only [go_sem, v63_3, h0]
    refine run_exit rfl ?_
    rw [fb_end hf]
    refine run_driveS 80 ?_
    simp only [go_sem, v63_10]
    refine run_ret_drop Tryd.func63 res63 [] (lw (dec f)) [] rfl (by simp) trivial (by simp [uniq]) ?_ ⟨rfl, rfl⟩
    simp only [go_sem, rr63, lw_plain]
end
section
attribute [local go_sem ↓] lc_len lc_take lc_drop lc_known lc_one lc_rens lc_cells lw_known lw_agg lw_asG
attribute [local go_sem ↓] brow_len brow_known brow_one brow_rens bw_known bw_agg bw_cells bw_asG
attribute [local go_sem] lt_nat lt_natl lt_lnat lt_ll bool_tf bool_ft
set_option maxRecDepth 100000
set_option maxHeartbeats 2000000
def hl (f : Nat → Nat) (s q : Nat) : Nat := hor f (max s (8 * q)) (8 * q + 8 - max s (8 * q))
def hb (f : Nat → Nat) (s : Nat) : List V := [.int .u64 (hl f s 0 : Int), .int .u64 (hl f s 1 : Int), .int .u64 (hl f s 2 : Int), .int .u64 (hl f s 3 : Int)]
theorem hb_len (f : Nat → Nat) (s : Nat) : (hb f s).length = 4 := rfl
theorem hb_rens (f : Nat → Nat) (i : Nat) (g : Nat → Nat) : rens g (hb f i) = hb f i := by simp only [hb, rens, ren]
theorem hb_get (f : Nat → Nat) (s : Nat) {q : Nat} (hq : q < 4) : ((hb f s).drop q).take 1 = [.int .u64 (hl f s q : Int)] := by
  match q, hq with
  | 0, _ | 1, _ | 2, _ | 3, _ => rfl
theorem hl_same (f : Nat → Nat) {i q : Nat} (hq : q ≠ i / 8) : hl f i q = hl f (i + 1) q := by
  unfold hl
  by_cases h : q < i / 8
  · rw [show 8 * q + 8 - max i (8 * q) = 0 by omega, show 8 * q + 8 - max (i + 1) (8 * q) = 0 by omega]
    rfl
  · rw [show max i (8 * q) = 8 * q by omega, show max (i + 1) (8 * q) = 8 * q by omega]
theorem hl_step {f : Nat → Nat} (h : ∀ j, f j < 256) (i : Nat) : o64 (l64 (hl f (i + 1) (i / 8)) 8) (f i) = hl f i (i / 8) := by
  unfold hl
  rw [show max (i + 1) (8 * (i / 8)) = i + 1 by omega, show max i (8 * (i / 8)) = i by omega, show 8 * (i / 8) + 8 - i = (8 * (i / 8) + 8 - (i + 1)) + 1 by omega, hor]
  have h1 := hor_lt h (8 * (i / 8) + 8 - (i + 1)) (i + 1)
  have h2 : 256 ^ (8 * (i / 8) + 8 - (i + 1)) ≤ 256 ^ 7 := Nat.pow_le_pow_right (by decide) (by omega)
  have h3 := h i
  have e : l64 (hor f (i + 1) (8 * (i / 8) + 8 - (i + 1))) 8 = 2 ^ 8 * hor f (i + 1) (8 * (i / 8) + 8 - (i + 1)) := by
    unfold l64 w64
    rw [show min 8 64 = 8 from rfl, Nat.mul_comm, Nat.mod_eq_of_lt (by omega)]
  rw [e, or_add 8 _ _ (by omega) (by omega), Nat.add_comm]
theorem hb_set (f : Nat → Nat) {i : Nat} (hi : i < 32) : (hb f (i + 1)).take (i / 8) ++ [.int .u64 (hl f i (i / 8) : Int)] ++ (hb f (i + 1)).drop (i / 8 + 1) = hb f i := by
  have h : i / 8 = 0 ∨ i / 8 = 1 ∨ i / 8 = 2 ∨ i / 8 = 3 := by omega
  have e : ∀ q, q ≠ i / 8 → hl f (i + 1) q = hl f i q := fun q hq => (hl_same f hq).symm
  rcases h with h | h | h | h <;> rw [h] at e ⊢
  · simp only [hb, List.take_zero, List.nil_append, List.drop_succ_cons, List.drop_zero, List.cons_append, e 1 (by decide), e 2 (by decide), e 3 (by decide)]
  · simp only [hb, List.take_succ_cons, List.take_zero, List.nil_append, List.drop_succ_cons, List.drop_zero, List.cons_append, e 0 (by decide), e 2 (by decide), e 3 (by decide)]
  · simp only [hb, List.take_succ_cons, List.take_zero, List.nil_append, List.drop_succ_cons, List.drop_zero, List.cons_append, e 0 (by decide), e 1 (by decide), e 3 (by decide)]
  · simp only [hb, List.take_succ_cons, List.take_zero, List.nil_append, List.drop_succ_cons, List.drop_nil, List.append_nil, List.drop_zero, List.cons_append, e 0 (by decide), e 1 (by decide), e 2 (by decide)]
theorem hb_end {f : Nat → Nat} (h : ∀ j, f j < 256) : hb f 0 = lc (dec f) := by
  rw [← lc_dec h]
  rfl
theorem limbs_ (f : Nat → Nat) (hf : ∀ j, f j < 256) {h : Heap} {R : V → Heap → Prop} (hQ : R (lw (dec f)) h) : VCall Tryd.prog G 58 [bw f] h R := by
  refine vcall_plain (Q := fun v => v = lw (dec f)) ?_ (fun g => by simp only [rens, bw_plain]) (fun v g hv => by subst hv; exact lw_plain _ _) (fun v hv => by subst hv; exact hQ)
  refine vcall_body Tryd.func58 nm58 code58 nt58 ?_
  refine run_driveS 80 ?_
  simp only [go_sem, v58, v58_0, v58_1, v58_2, v58_8, brow_take, brow_drop32]
  refine run_rename [0, 1, 2] (st' := ⟨[.unk, .ptr 0 0, .ptr 1 0, .ptr 2 0, .int .i64 (31 - ((0 : Nat) : Int))] ++ List.replicate 18 .unk, [some ⟨.rw, brow 32 f⟩, some ⟨.rw, lc 0⟩, some ⟨.rw, hb f (32 - 0)⟩]⟩) rfl (by simp) ?_ ?_ ?_ (run_for (fun m => ⟨[.unk, .ptr 0 0, .ptr 1 0, .ptr 2 0, .int .i64 (31 - (m : Int))] ++ List.replicate 18 .unk, [some ⟨.rw, brow 32 f⟩, some ⟨.rw, lc 0⟩, some ⟨.rw, hb f (32 - m)⟩]⟩) 32 (fun m hm ih => ?_) ?_)
  · exact hfit_cons rfl (bfit_g (brow_rens ..)) (hfit_cons rfl (bfit_g (lc_rens ..)) (hfit_cons rfl (bfit_g (hb_rens ..)) hfit_nil))
  · simp [uniq, wrB]
  · simp only [go_sem, hfit, lc_fit, scs_fit, fit, ren, gmap, lw_plain, true_or, or_true]
  · obtain ⟨i, hi⟩ : ∃ i, i = 31 - m := ⟨_, rfl⟩
    have e1 : (31 - (m : Int)) = (i : Int) := by omega
    have e2 : 32 - m = i + 1 := by omega
    have e3 : 32 - (m + 1) = i := by omega
    have e4 : (31 - ((m + 1 : Nat) : Int)) = (i : Int) - 1 := by omega
    rw [e3, e4] at ih
    rw [e1, e2]
    have hi32 : i < 32 := by omega
    have h0 : ((0 : Int) ≤ (i : Int)) = True := eq_true (by omega)
    have h1 : ((i : Int) < 32) = True := eq_true (by omega)
    have hq4 : (((i / 8 : Nat) : Int) < 4) = True := eq_true (by omega)
    have hq := bq8 i hi32
    have hx := brow_get' 32 f hi32
    have hbb := wrap_byte (hf i)
    have hg := hb_get f (i + 1) (q := i / 8) (by omega)
    have hi1 : (i + 1 ≤ 32) = True := eq_true (by omega)
    have hi4 : (i / 8 + 1 ≤ 4) = True := eq_true (by omega)
    have ho := hl_step hf i
    have hs := hb_set f hi32
    have hln := hb_len f (i + 1)
    have hw : IntKind.i64.wrap ((i : Int) - 1) = (i : Int) - 1 := wrap_i64 (by omega) (by omega)
    refine run_loop_eq v58_7.eq_1 ?_
    refine run_driveS 80 ?_
    simp only [go_sem, v58_3, v58_5, h0, ge_iff_le]
    refine run_drw (by kernel_rfl) ?_
    refine drun_drive 40 (p := (_, _)) ?_
    simp only [go_sem, v58_4, hq, hq4, h1, hbb, hg, hi4, ho, hs, hln, hx, hi1]
    refine drun_end ?_
    refine run_driveS 80 ?_
    simp only [go_sem, v58_6, hw]
    refine run_tmps ?_ ih
    simp only [go_sem, forg, true_or, or_true]
  · have h0 : ((0 : Int) ≤ 31 - ((32 : Nat) : Int)) = False := eq_false (by omega)
    refine run_loop_eq v58_7.eq_1 ?_
    refine run_driveS 80 ?_
    simp only [go_sem, v58_3, h0, ge_iff_le]
    refine run_exit rfl ?_
    rw [hb_end hf]
    refine run_driveS 80 ?_
    simp only [go_sem, v58_9]
    refine run_ret_drop Tryd.func58 res58 [] (lw (dec f)) [] rfl (by simp) trivial (by simp [uniq]) ?_ ⟨rfl, rfl⟩
    simp only [go_sem, rr58, lw_plain]
theorem lc_zero' : [V.int .u64 (nl 0), .int .u64 (nl 0), .int .u64 (nl 0), .int .u64 (nl 0)] = lc 0 := rfl
def dval (f : Nat → Nat) : Nat := if dec f < ell then dec f else 0
def derr (f : Nat → Nat) : Int := if dec f < ell then 0 else 3
theorem decode (hG : G 3 = tbl) (f : Nat → Nat) (hf : ∀ j, f j < 256) {h : Heap} {R : V → Heap → Prop} (hQ : R (.tup [lw (dval f), .int .i64 (derr f)]) h) : VCall Tryd.prog G 44 [bw f] h R := by
  refine vcall_plain (Q := fun v => v = .tup [lw (dval f), .int .i64 (derr f)]) ?_ (fun g => by simp only [rens, bw_plain]) (fun v g hv => by subst hv; simp only [ren, rens, lw_plain]) (fun v hv => by subst hv; exact hQ)
  refine vcall_body Tryd.func44 nm44 code44 nt44 ?_
  have hd := dec_lt hf
  have q := lc_eqL (mod_lt (dec f)) hd
  have q2 : decide (dec f % ell = dec f) = decide (dec f < ell) := by
    rw [Bool.eq_iff_iff, decide_eq_true_eq, decide_eq_true_eq]
    constructor
    · intro e; rw [← e]; exact Nat.mod_lt _ ell_pos
    · exact Nat.mod_eq_of_lt
  rw [q2] at q
  refine run_driveS 80 ?_
  simp only [go_sem, v44, v44_0, v44_1, brow_take, brow_drop32]
  refine run_call' rfl ?_
  simp only [go_sem, calV]
  refine from_bytes f hf ?_
  refine run_driveS 80 ?_
  simp only [go_sem]
  refine run_drw (by kernel_rfl) ?_
  refine drun_drive 40 (p := (_, _)) ?_
  simp only [go_sem, v44_2, restore, Option.join_some, maskH, List.mapIdx_cons, List.mapIdx_nil, List.contains_cons, List.contains_nil, Bool.or_false, Bool.or_true, Bool.false_or, Bool.true_or, Nat.reduceBEq]
  refine drun_call' ?_
  simp only [go_sem, calV, restore, Option.join_some, maskH, List.mapIdx_cons, List.mapIdx_nil, List.contains_cons, List.contains_nil, Bool.or_false, Bool.or_true, Bool.false_or, Bool.true_or, Nat.reduceBEq]
  refine least' hG _ hd ?_
  refine drun_drive 40 (p := (_, _)) ?_
  simp only [go_sem, q, restore, Option.join_some, maskH, List.mapIdx_cons, List.mapIdx_nil, List.contains_cons, List.contains_nil, Bool.or_false, Bool.or_true, Bool.false_or, Bool.true_or, Nat.reduceBEq]
  refine drun_end ?_
  refine run_driveS 80 ?_
  simp only [go_sem]
  unfold dval derr
  by_cases hc : dec f < ell
  · refine run_cond_f (by simp only [go_sem, decide_eq_true hc]) ?_
    rw [if_pos hc, if_pos hc]
    refine run_driveS 80 ?_
    simp only [go_sem, v44_4]
    refine run_ret_drop Tryd.func44 res44 [] (.tup [lw (dec f), .int .i64 0]) [] rfl (by simp) trivial (by simp [uniq]) ?_ ⟨rfl, rfl⟩
    simp only [go_sem, rr44, lw_plain, ren, rens]
  · refine run_cond_t (by simp only [go_sem, decide_eq_false hc]) ?_
    rw [if_neg hc, if_neg hc]
    refine run_driveS 80 ?_
    simp only [go_sem, v44_3, lc_zero']
    refine run_ret_drop Tryd.func44 res44 [] (.tup [lw 0, .int .i64 3]) [] rfl (by simp) trivial (by simp [uniq]) ?_ ⟨rfl, rfl⟩
    simp only [go_sem, rr44, lw_plain, ren, rens]
theorem ref_decode (f : Nat → Nat) (hf : ∀ j, f j < 256) {h : Heap} {R : V → Heap → Prop} (hQ : R (.tup [lw (dval f), .int .i64 (derr f)]) h) : VCall Tryd.prog G 35 [bw f] h R := by
  refine vcall_plain (Q := fun v => v = .tup [lw (dval f), .int .i64 (derr f)]) ?_ (fun g => by simp only [rens, bw_plain]) (fun v g hv => by subst hv; simp only [ren, rens, lw_plain]) (fun v hv => by subst hv; exact hQ)
  refine vcall_body Tryd.func35 nm35 code35 nt35 ?_
  have hd := dec_lt hf
  refine run_driveS 80 ?_
  simp only [go_sem, v35, v35_0, v35_1, brow_take, brow_drop32]
  refine run_call' rfl ?_
  simp only [go_sem, calV]
  refine limbs_ f hf ?_
  refine run_driveS 80 ?_
  simp only [go_sem]
  refine run_drw (by kernel_rfl) ?_
  refine drun_drive 40 (p := (_, _)) ?_
  simp only [go_sem, v35_2, restore, Option.join_some, maskH, List.mapIdx_cons, List.mapIdx_nil, List.contains_cons, List.contains_nil, Bool.or_false, Bool.or_true, Bool.false_or, Bool.true_or, Nat.reduceBEq]
  refine drun_call' ?_
  simp only [go_sem, calV, restore, Option.join_some, maskH, List.mapIdx_cons, List.mapIdx_nil, List.contains_cons, List.contains_nil, Bool.or_false, Bool.or_true, Bool.false_or, Bool.true_or, Nat.reduceBEq]
  refine ref_l ?_
  refine drun_drive 40 (p := (_, _)) ?_
  simp only [go_sem, restore, Option.join_some, maskH, List.mapIdx_cons, List.mapIdx_nil, List.contains_cons, List.contains_nil, Bool.or_false, Bool.or_true, Bool.false_or, Bool.true_or, Nat.reduceBEq]
  refine drun_call' ?_
  simp only [go_sem, calV, restore, Option.join_some, maskH, List.mapIdx_cons, List.mapIdx_nil, List.contains_cons, List.contains_nil, Bool.or_false, Bool.or_true, Bool.false_or, Bool.true_or, Nat.reduceBEq]
  refine ref_below _ _ hd ell_lt ?_
  refine drun_drive 40 (p := (_, _)) ?_
  simp only [go_sem, restore, Option.join_some, maskH, List.mapIdx_cons, List.mapIdx_nil, List.contains_cons, List.contains_nil, Bool.or_false, Bool.or_true, Bool.false_or, Bool.true_or, Nat.reduceBEq]
  refine drun_end ?_
  refine run_driveS 80 ?_
  simp only [go_sem]
  unfold dval derr
  by_cases hc : dec f < ell
  · refine run_cond_f (by simp only [go_sem, decide_eq_true hc]) ?_
    rw [if_pos hc, if_pos hc]
    refine run_driveS 80 ?_
    simp only [go_sem, v35_4]
    refine run_ret_drop Tryd.func35 res35 [] (.tup [lw (dec f), .int .i64 0]) [] rfl (by simp) trivial (by simp [uniq]) ?_ ⟨rfl, rfl⟩
    simp only [go_sem, rr35, lw_plain, ren, rens]
  · refine run_cond_t (by simp only [go_sem, decide_eq_false hc]) ?_
    rw [if_neg hc, if_neg hc]
    refine run_driveS 80 ?_
    simp only [go_sem, v35_3, lc_zero']
    refine run_ret_drop Tryd.func35 res35 [] (.tup [lw 0, .int .i64 3]) [] rfl (by simp) trivial (by simp [uniq]) ?_ ⟨rfl, rfl⟩
    simp only [go_sem, rr35, lw_plain, ren, rens]
end
section
attribute [local go_sem ↓] lc_len lc_take lc_drop lc_known lc_one lc_rens lc_cells lw_known lw_agg lw_asG
attribute [local go_sem ↓] brow_len brow_known brow_one brow_rens bw_known bw_agg bw_cells bw_asG
attribute [local go_sem] lt_nat lt_natl lt_lnat lt_ll bool_tf bool_ft
set_option maxRecDepth 100000
set_option maxHeartbeats 2000000
theorem line_encode (hG : G 3 = tbl) (A : Nat) (hA : A < 115792089237316195423570985008687907853269984665640564039457584007913129639936) {h : Heap} {R : V → Heap → Prop} (hQ : R (bw (enc (A % ell))) h) : VCall Tryd.prog G 111 [lw A] h R := by
  refine vcall_plain (Q := fun v => v = bw (enc (A % ell))) ?_ (fun g => by simp only [rens, lw_plain, ew_plain, ren]) (fun v g hv => by subst hv; exact bw_plain _ _) (fun v hv => by subst hv; exact hQ)
  refine vcall_body Tryd.func111 nm111 code111 nt111 ?_
  refine run_driveS 80 ?_
  simp only [go_sem, v111, v111_0, v111_1]
  refine run_call' rfl ?_
  simp only [go_sem, calV]
  refine encode hG A hA ?_
  refine run_driveS 80 ?_
  simp only [go_sem, brow_take, brow_drop32]
  refine run_ret_drop Tryd.func111 res111 [] (bw (enc (A % ell))) [] rfl (by simp) trivial (by simp [uniq]) ?_ ⟨rfl, rfl⟩
  simp only [go_sem, rr111, bw_plain, brow_take]
theorem line_decode (hG : G 3 = tbl) (z : Nat) (f : Nat → Nat) (hf : ∀ j, f j < 256) {h : Heap} {R : V → Heap → Prop} (hQ : R (.tup [lw (dval f), .int .i64 (derr f)]) h) : VCall Tryd.prog G 109 [lw z, bw f] h R := by
  refine vcall_plain (Q := fun v => v = .tup [lw (dval f), .int .i64 (derr f)]) ?_ (fun g => by simp only [rens, bw_plain, lw_plain]) (fun v g hv => by subst hv; simp only [ren, rens, lw_plain]) (fun v hv => by subst hv; exact hQ)
  refine vcall_body Tryd.func109 nm109 code109 nt109 ?_
  refine run_driveS 80 ?_
  simp only [go_sem, v109, v109_0, v109_1, brow_take, brow_drop32]
  refine run_call' rfl ?_
  simp only [go_sem, calV]
  refine decode hG f hf ?_
  refine run_driveS 80 ?_
  simp only [go_sem, v109_2]
  refine run_ret_drop Tryd.func109 res109 [] (.tup [lw (dval f), .int .i64 (derr f)]) [] rfl (by simp) trivial (by simp [uniq]) ?_ ⟨rfl, rfl⟩
  simp only [go_sem, rr109, lw_plain, ren, rens]
theorem m_enc : methV Tryd.prog 28 "Encode" = some 111 := by kernel_rfl
theorem m_dec : methV Tryd.prog 28 "Decode" = some 109 := by kernel_rfl
theorem write_e (hG : G 3 = tbl) (A o : Nat) (hA : A < 115792089237316195423570985008687907853269984665640564039457584007913129639936) (cells : List V) (hc : (cells.drop o).take 4 = lc A) (Q : V → Heap → Prop) (hQ : Q (bw (enc (A % ell))) [none, none]) :
    VCall Tryd.prog G 37 [.ptr 0 0] [some ⟨.ro, [.ptr 1 o]⟩, some ⟨.ro, cells⟩] Q := by
  refine vcall_body Tryd.func37 nm37 code37 nt37 ?_
  refine run_driveS 80 ?_
  simp only [go_sem, v37, v37_0, v37_1, hc]
  refine run_call' rfl ?_
  simp only [go_sem, calV, m_enc]
  refine line_encode hG A hA ?_
  refine run_driveS 80 ?_
  simp only [go_sem, brow_take, brow_drop32]
  refine run_ret_drop Tryd.func37 res37 [0, 1] (bw (enc (A % ell))) _ rfl (by simp) ?_ ?_ ?_ hQ
  · exact hfit_cons_none (hfit_cons_none hfit_nil)
  · simp [uniq, wrB]
  · simp only [go_sem, rr37, bw_plain, brow_take]
theorem write_n (hG : G 3 = tbl) (A o : Nat) (hA : A < 115792089237316195423570985008687907853269984665640564039457584007913129639936) (cells : List V) (hc : (cells.drop o).take 4 = lc A) (Q : V → Heap → Prop) (hQ : Q (bw (enc (A % ell))) [none, none]) :
    VCall Tryd.prog G 41 [.ptr 0 0] [some ⟨.ro, [.ptr 1 o]⟩, some ⟨.ro, cells⟩] Q := by
  refine vcall_body Tryd.func41 nm41 code41 nt41 ?_
  refine run_driveS 80 ?_
  simp only [go_sem, v41, v41_0, v41_1, hc]
  refine run_call' rfl ?_
  simp only [go_sem, calV]
  refine encode hG A hA ?_
  refine run_driveS 80 ?_
  simp only [go_sem, brow_take, brow_drop32]
  refine run_ret_drop Tryd.func41 res41 [0, 1] (bw (enc (A % ell))) _ rfl (by simp) ?_ ?_ ?_ hQ
  · exact hfit_cons_none (hfit_cons_none hfit_nil)
  · simp [uniq, wrB]
  · simp only [go_sem, rr41, bw_plain, brow_take]
def adv (m : Nat) : Nat := if m = 32 then 0 else 32
theorem brow_cut (N : Nat) (F : Nat → Nat) {o k : Nat} (h : o + k ≤ N) : ((brow N F).drop o).take k = brow k fun j => F (o + j) := by
  rw [brow_drop N F (by omega), brow_takes _ _ (by omega)]
theorem adv_eq (m : Nat) : (if (32 : Int) = 0 then 0 else if (m : Int) = 32 then 0 else 32) = adv m := by
  unfold adv
  rw [if_neg (by decide)]
  by_cases h : m = 32
  · rw [if_pos (by omega), if_pos h]
  · rw [if_neg (by omega), if_neg h]
theorem take (N o n m : Nat) (F : Nat → Nat) (h1 : o + n ≤ N) (h2 : 32 ≤ n) (h3 : n ≤ m) (e : Int) (Q : V → Heap → Prop)
    (hQ : Q (bw fun j => F (o + j)) [some ⟨.rw, [.sl 1 (o + adv m) (n - 32) (.exact (m - 32)), .int .i64 e]⟩, some ⟨.ro, brow N F⟩]) :
    VCall Tryd.prog G 39 [.ptr 0 0] [some ⟨.rw, [.sl 1 o n (.exact m), .int .i64 e]⟩, some ⟨.ro, brow N F⟩] Q := by
  have hmin : min n 32 = 32 := by omega
  have hcut := brow_cut N F (o := o) (k := 32) (by omega)
  have hne : (brow 32 fun j => F (o + j)) ≠ [] := fun h => by have := congrArg List.length h; rw [brow_len] at this; simp at this
  have c1 : ((m : Int) ≤ (m : Int)) = True := eq_true (Int.le_refl _)
  have c2 : ((n : Int) ≤ (m : Int)) = True := eq_true (by omega)
  have c3 : ((32 : Int) ≤ (n : Int)) = True := eq_true (by omega)
  have e1 : ((n : Int) - 32).toNat = n - 32 := by omega
  have e2 : ((m : Int) - 32).toNat = m - 32 := by omega
  have e3 := adv_eq m
  refine vcall_body Tryd.func39 nm39 code39 nt39 ?_
  refine run_driveS 80 ?_
  simp only [go_sem, v39, v39_0, zero32]
  refine run_drw (by kernel_rfl) ?_
  refine drun_drive 40 (p := (_, _)) ?_
  simp only [go_sem, v39_1, hmin, hcut, brow_drop32, List.append_nil, restore, Option.join_some, maskH, List.mapIdx_cons, List.mapIdx_nil, List.contains_cons, List.contains_nil, Bool.or_false, Bool.or_true, Bool.false_or, Bool.true_or, Nat.reduceBEq]
  refine drun_end ?_
  refine run_driveS 80 ?_
  simp only [go_sem, v39_2, c1, c2, c3, e1, e2, e3]
  refine run_driveS 80 ?_
  simp only [go_sem, v39_3, brow_take, brow_drop32]
  refine run_ret_drop Tryd.func39 res39 [0, 1] (bw fun j => F (o + j)) _ rfl (by simp) ?_ ?_ ?_ hQ
  · exact hfit_cons rfl (bfit_g (by simp only [rens, ren, gmap])) (hfit_cons rfl (bfit_g (brow_rens ..)) hfit_nil)
  · exact uniq_nodup (by decide)
  · simp only [go_sem, rr39, bw_plain, brow_take]
theorem fault (i o n m : Nat) (b : Option Blk) (hb : ∀ f, bfit f b b) (c e : Int) (Q : V → Heap → Prop) (hQ : Q (.tup []) [some ⟨.rw, [.sl 1 o n (.exact m), .int .i64 (if c = 0 then e else c)]⟩, b]) :
    VCall Tryd.prog G 40 [.ptr 0 0, .int .i64 e] [some ⟨.rw, [.sl 1 o n (.exact m), .int .i64 c]⟩, b] Q := by
  refine vcall_body Tryd.func40 nm40 code40 nt40 ?_
  by_cases hc : c = 0
  · have h1 : (c == 0) = true := by simpa using hc
    rw [if_pos hc] at hQ
    refine run_driveS 80 ?_
    simp only [go_sem, v40, v40_0, h1]
    refine run_cond_t (by rfl) ?_
    refine run_driveS 80 ?_
    simp only [go_sem, v40_1]
    exact run_end_drop Tryd.func40 res40 [0, 1] _ rfl (by simp) (hfit_cons rfl (bfit_g (by simp only [rens, ren, gmap])) (hfit_cons rfl (hb _) hfit_nil)) (uniq_nodup (by decide)) hQ
  · have h1 : (c == 0) = false := by simpa using hc
    rw [if_neg hc] at hQ
    refine run_driveS 80 ?_
    simp only [go_sem, v40, v40_0, h1]
    refine run_cond_f (by rfl) ?_
    refine run_driveS 80 ?_
    simp only [go_sem]
    exact run_end_drop Tryd.func40 res40 [0, 1] _ rfl (by simp) (hfit_cons rfl (bfit_g (by simp only [rens, ren, gmap])) (hfit_cons rfl (hb _) hfit_nil)) (uniq_nodup (by decide)) hQ
theorem read_e (hG : G 3 = tbl) (N o n m : Nat) (F : Nat → Nat) (hF : ∀ j, F j < 256) (h1 : o + n ≤ N) (h2 : 32 ≤ n) (h3 : n ≤ m) (c : Int) (p : Nat) (c0 : List V) (hp : p + 4 ≤ c0.length) (X4 X5 : Option Blk) (hX4 : ∀ f, bfit f X4 X4) (hX5 : ∀ f, bfit f X5 X5) (hc0 : ∀ (f : Nat → Nat) v, f 4 = 4 → f 5 = 5 → rens f (c0.take p ++ lc v ++ c0.drop (p + 4)) = c0.take p ++ lc v ++ c0.drop (p + 4)) (Q : V → Heap → Prop)
    (hQ : Q (.tup []) [some ⟨.rw, [.sl 1 (o + adv m) (n - 32) (.exact (m - 32)), .int .i64 (if c = 0 then derr (fun j => F (o + j)) else c)]⟩, some ⟨.ro, brow N F⟩, none, some ⟨.rw, c0.take p ++ lc (dval fun j => F (o + j)) ++ c0.drop (p + 4)⟩, X4, X5]) :
    VCall Tryd.prog G 38 [.ptr 0 0, .ptr 2 0] [some ⟨.rw, [.sl 1 o n (.exact m), .int .i64 c]⟩, some ⟨.ro, brow N F⟩, some ⟨.ro, [.ptr 3 p]⟩, some ⟨.rw, c0⟩, X4, X5] Q := by
  have hp1 : (p + 4 ≤ c0.length) = True := eq_true hp
  refine vcall_body Tryd.func38 nm38 code38 nt38 ?_
  refine run_driveS 80 ?_
  simp only [go_sem, v38, v38_0, lc_zero']
  refine run_drw (by kernel_rfl) ?_
  refine drun_drive 40 (p := (_, _)) ?_
  simp only [go_sem, v38_1, lc_zero', restore, Option.join_some, maskH, List.mapIdx_cons, List.mapIdx_nil, List.contains_cons, List.contains_nil, Bool.or_false, Bool.or_true, Bool.false_or, Bool.true_or, Nat.reduceBEq]
  refine drun_call' ?_
  simp only [go_sem, calV, restore, Option.join_some, maskH, List.mapIdx_cons, List.mapIdx_nil, List.contains_cons, List.contains_nil, Bool.or_false, Bool.or_true, Bool.false_or, Bool.true_or, Nat.reduceBEq]
  refine vcall_at (take N o n m F h1 h2 h3 c (fun v k => v = bw (fun j => F (o + j)) ∧ k = _) ⟨rfl, rfl⟩) [0, 1] (by simp) ?_ ?_ ?_ ?_
  · exact hfit_cons rfl (bfit_g (by simp only [rens, ren, gmap])) (hfit_cons rfl (bfit_g (brow_rens ..)) hfit_nil)
  · exact uniq_nodup (by decide)
  · simp only [rens, ren, gmap]
  rintro v k ⟨rfl, rfl⟩
  simp only [puts, wrB, Bool.false_eq_true, if_false, if_true, List.set_cons_zero, List.set_cons_succ, Option.map_some, renB, rens, ren, gmap, List.append_nil, List.map_nil, bw_plain]
  refine drun_drive 40 (p := (_, _)) ?_
  simp only [go_sem, restore, Option.join_some, maskH, List.mapIdx_cons, List.mapIdx_nil, List.contains_cons, List.contains_nil, Bool.or_false, Bool.or_true, Bool.false_or, Bool.true_or, Nat.reduceBEq]
  refine drun_call' ?_
  simp only [go_sem, calV, m_dec, restore, Option.join_some, maskH, List.mapIdx_cons, List.mapIdx_nil, List.contains_cons, List.contains_nil, Bool.or_false, Bool.or_true, Bool.false_or, Bool.true_or, Nat.reduceBEq]
  refine line_decode hG 0 _ (fun j => hF _) ?_
  refine drun_drive 40 (p := (_, _)) ?_
  simp only [go_sem, lc_zero', restore, Option.join_some, maskH, List.mapIdx_cons, List.mapIdx_nil, List.contains_cons, List.contains_nil, Bool.or_false, Bool.or_true, Bool.false_or, Bool.true_or, Nat.reduceBEq]
  refine drun_end ?_
  refine run_driveS 80 ?_
  simp only [go_sem, v38_2]
  refine run_call' rfl ?_
  simp only [go_sem, calV]
  refine vcall_at (fault 1 (o + adv m) (n - 32) (m - 32) (some ⟨.ro, brow N F⟩) (fun f => bfit_g (brow_rens ..)) c (derr fun j => F (o + j)) (fun v k => v = .tup [] ∧ k = _) ⟨rfl, rfl⟩) [0, 1] (by simp) ?_ ?_ ?_ ?_
  · exact hfit_cons rfl (bfit_g (by simp only [rens, ren, gmap])) (hfit_cons rfl (bfit_g (brow_rens ..)) hfit_nil)
  · exact uniq_nodup (by decide)
  · simp only [rens, ren, gmap]
  rintro v k ⟨rfl, rfl⟩
  simp only [puts, wrB, Bool.false_eq_true, if_false, if_true, List.set_cons_zero, List.set_cons_succ, Option.map_some, renB, rens, ren, gmap, List.append_nil, List.map_nil, bw_plain]
  refine run_driveS 80 ?_
  simp only [go_sem, v38_3, hp1]
  refine run_end_drop Tryd.func38 res38 [0, 1, 2, 3, 4, 5] _ rfl (by simp) ?_ (uniq_nodup (by decide)) hQ
  exact hfit_cons rfl (bfit_g (by simp only [rens, ren, gmap])) (hfit_cons rfl (bfit_g (brow_rens ..)) (hfit_cons_none (hfit_cons rfl (bfit_g (hc0 _ _ rfl rfl)) (hfit_cons rfl (hX4 _) (hfit_cons rfl (hX5 _) hfit_nil)))))
theorem read_n (hG : G 3 = tbl) (N o n m : Nat) (F : Nat → Nat) (hF : ∀ j, F j < 256) (h1 : o + n ≤ N) (h2 : 32 ≤ n) (h3 : n ≤ m) (c : Int) (p : Nat) (c0 : List V) (hp : p + 4 ≤ c0.length) (X4 X5 : Option Blk) (hX4 : ∀ f, bfit f X4 X4) (hX5 : ∀ f, bfit f X5 X5) (hc0 : ∀ (f : Nat → Nat) v, f 4 = 4 → f 5 = 5 → rens f (c0.take p ++ lc v ++ c0.drop (p + 4)) = c0.take p ++ lc v ++ c0.drop (p + 4)) (Q : V → Heap → Prop)
    (hQ : Q (.tup []) [some ⟨.rw, [.sl 1 (o + adv m) (n - 32) (.exact (m - 32)), .int .i64 (if c = 0 then derr (fun j => F (o + j)) else c)]⟩, some ⟨.ro, brow N F⟩, none, some ⟨.rw, c0.take p ++ lc (dval fun j => F (o + j)) ++ c0.drop (p + 4)⟩, X4, X5]) :
    VCall Tryd.prog G 43 [.ptr 0 0, .ptr 2 0] [some ⟨.rw, [.sl 1 o n (.exact m), .int .i64 c]⟩, some ⟨.ro, brow N F⟩, some ⟨.ro, [.ptr 3 p]⟩, some ⟨.rw, c0⟩, X4, X5] Q := by
  have hp1 : (p + 4 ≤ c0.length) = True := eq_true hp
  refine vcall_body Tryd.func43 nm43 code43 nt43 ?_
  refine run_driveS 80 ?_
  simp only [go_sem, v43, v43_0]
  refine run_call' rfl ?_
  simp only [go_sem, calV]
  refine vcall_at (take N o n m F h1 h2 h3 c (fun v k => v = bw (fun j => F (o + j)) ∧ k = _) ⟨rfl, rfl⟩) [0, 1] (by simp) ?_ ?_ ?_ ?_
  · exact hfit_cons rfl (bfit_g (by simp only [rens, ren, gmap])) (hfit_cons rfl (bfit_g (brow_rens ..)) hfit_nil)
  · exact uniq_nodup (by decide)
  · simp only [rens, ren, gmap]
  rintro v k ⟨rfl, rfl⟩
  simp only [puts, wrB, Bool.false_eq_true, if_false, if_true, List.set_cons_zero, List.set_cons_succ, Option.map_some, renB, rens, ren, gmap, List.append_nil, List.map_nil, bw_plain]
  refine run_driveS 80 ?_
  simp only [go_sem]
  refine run_call' rfl ?_
  simp only [go_sem, calV]
  refine decode hG _ (fun j => hF _) ?_
  refine run_driveS 80 ?_
  simp only [go_sem, v43_1, lc_zero']
  refine run_call' rfl ?_
  simp only [go_sem, calV]
  refine vcall_at (fault 1 (o + adv m) (n - 32) (m - 32) (some ⟨.ro, brow N F⟩) (fun f => bfit_g (brow_rens ..)) c (derr fun j => F (o + j)) (fun v k => v = .tup [] ∧ k = _) ⟨rfl, rfl⟩) [0, 1] (by simp) ?_ ?_ ?_ ?_
  · exact hfit_cons rfl (bfit_g (by simp only [rens, ren, gmap])) (hfit_cons rfl (bfit_g (brow_rens ..)) hfit_nil)
  · exact uniq_nodup (by decide)
  · simp only [rens, ren, gmap]
  rintro v k ⟨rfl, rfl⟩
  simp only [puts, wrB, Bool.false_eq_true, if_false, if_true, List.set_cons_zero, List.set_cons_succ, Option.map_some, renB, rens, ren, gmap, List.append_nil, List.map_nil, bw_plain]
  refine run_driveS 80 ?_
  simp only [go_sem, v43_2, hp1]
  refine run_end_drop Tryd.func43 res43 [0, 1, 2, 3, 4, 5] _ rfl (by simp) ?_ (uniq_nodup (by decide)) hQ
  exact hfit_cons rfl (bfit_g (by simp only [rens, ren, gmap])) (hfit_cons rfl (bfit_g (brow_rens ..)) (hfit_cons_none (hfit_cons rfl (bfit_g (hc0 _ _ rfl rfl)) (hfit_cons rfl (hX4 _) (hfit_cons rfl (hX5 _) hfit_nil)))))
end
end Go.Vs.Tryd
