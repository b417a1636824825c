/- Text 4 of 5 of this claim: a machine of plain values beside the model, what the functions of the program and of the reference answer over it, and last the row and its card. -/
import Derived.Test.YtebekndmhgmfbaaDoorFK3
import Derived.Test.YtebekndmhgmfbaaDoorFK2
set_option linter.unusedVariables false
set_option linter.unusedSimpArgs false
namespace Go.Vs.Tryd
open Go.Proofs
variable {G : Nat → List V}
set_option linter.unusedSimpArgs false
section
attribute [local go_sem] Option.isSome_some Option.isSome_none Kind.m Kind.w Kind.g look_ro look_rw look_grow lenO drive stepV exo expo evs fillV isNil nilKind eqV eqL optA optM sliceAtV ev kn V.known V.one ldc stc splice cellsOf asK asN asB asS asG asT appV srcV lenV setd wantV exitV rvs rv one List.length_cons List.length_nil List.cons_append List.nil_append List.append_nil List.replicate List.getD_cons_zero List.getD_cons_succ List.set_cons_zero List.set_cons_succ List.getElem?_cons_zero List.getElem?_cons_succ List.getElem?_nil List.take_succ_cons List.take_zero List.take_nil List.drop_succ_cons List.drop_zero List.drop_nil List.all_cons List.all_nil List.any_cons List.any_nil Bool.and_true Bool.true_and Bool.and_self Option.map_some Option.map_none Option.bind_some Option.some.injEq Nat.add_zero Nat.zero_add Int.toNat_zero Int.toNat_one Int.zero_add Int.add_zero if_true if_false ite_true ite_false and_true true_and and_self ne_eq not_false_eq_true not_true_eq_false decide_true decide_false Bool.false_eq_true Bool.not_true Bool.not_false beq_self_eq_true BEq.rfl Bool.not_eq_true Nat.le_refl Int.le_refl Nat.zero_le List.foldl List.map_cons List.map_nil Prod.mk.injEq Int.cast_ofNat_Int Int.zero_le_ofNat b_add_cc b_add_cl b_add_lc b_mul_cc b_mul_cl b_mul_lc b_sub_cc b_sub_cl b_sub_lc b_and_cc b_and_cl b_and_lc b_or_cc b_or_cl b_or_lc b_xor_cc b_xor_cl b_xor_lc b_andNot_cc b_andNot_cl b_andNot_lc b_shr_cc b_shr_cl b_shr_lc b_shl_cc b_shl_cl b_shl_lc b_lss b_leq b_gtr b_geq b_add_i b_sub_i b_mul_i beq_cc beq_cl beq_lc beq_ll b_quo_i b_rem_i neg_u64 wrap_i64 driveD stepD idsAt idOf maskH_nil restore_nil restore_mask List.filterMap_nil List.filterMap_cons VOp.looks VOp.makes exA
set_option maxRecDepth 100000
theorem add64_c (x y c : Nat) (hc : c ≤ 1) (hx : x < 18446744073709551616) (hy : y < 18446744073709551616) (xi : Int) (hxi : xi = (x : Int)) (ci : Int) (hci : ci = (c : Int)) {h : Heap} {R : V → Heap → Prop} (hq : ∀ d b : Nat, d < 18446744073709551616 → b ≤ 1 → x + y + c = 18446744073709551616 * b + d → R (.tup [.int .u64 (d : Int), .int .u64 (b : Int)]) h) : VCall Tryd.prog G 90 [.int .u64 xi, .int .u64 (y : Int), .int .u64 ci] h R := by
  subst hxi; exact add64 x y c ci hci hc hx hy hq
theorem mont_law {A b0 b1 b2 b3 m0 m1 m2 m3 Z1 Z2 Z3 Z4 R : Nat} (h0 : 18446744073709551616 * Z1 = (0 + 18446744073709551616 * 0 + 340282366920938463463374607431768211456 * 0 + 6277101735386680763835789423207666416102355444464034512896 * 0) + A * b0 + m0 * 7237005577332262213973186563042994240857116359379907606001950938285454250989) (h1 : 18446744073709551616 * Z2 = Z1 + A * b1 + m1 * 7237005577332262213973186563042994240857116359379907606001950938285454250989) (h2 : 18446744073709551616 * Z3 = Z2 + A * b2 + m2 * 7237005577332262213973186563042994240857116359379907606001950938285454250989) (h3 : 18446744073709551616 * Z4 = Z3 + A * b3 + m3 * 7237005577332262213973186563042994240857116359379907606001950938285454250989) (hR : R = Z4 ∨ R + ell = Z4) :
    ∃ x y : Nat, 115792089237316195423570985008687907853269984665640564039457584007913129639936 * R + ell * x = A * (b0 + 18446744073709551616 * b1 + 340282366920938463463374607431768211456 * b2 + 6277101735386680763835789423207666416102355444464034512896 * b3) + ell * y := by
  have hb : A * (b0 + 18446744073709551616 * b1 + 340282366920938463463374607431768211456 * b2 + 6277101735386680763835789423207666416102355444464034512896 * b3) = A * b0 + 18446744073709551616 * (A * b1) + 340282366920938463463374607431768211456 * (A * b2) + 6277101735386680763835789423207666416102355444464034512896 * (A * b3) := by grind
  have hell : ell = 7237005577332262213973186563042994240857116359379907606001950938285454250989 := rfl
  rw [hb]
  generalize A * b0 = p0 at *
  generalize A * b1 = p1 at *
  generalize A * b2 = p2 at *
  generalize A * b3 = p3 at *
  have e : 115792089237316195423570985008687907853269984665640564039457584007913129639936 * Z4 = p0 + 18446744073709551616 * p1 + 340282366920938463463374607431768211456 * p2 + 6277101735386680763835789423207666416102355444464034512896 * p3 + ell * (m0 + 18446744073709551616 * m1 + 340282366920938463463374607431768211456 * m2 + 6277101735386680763835789423207666416102355444464034512896 * m3) := by rw [hell]; omega
  rcases hR with rfl | hR
  · exact ⟨0, _, e⟩
  · exact ⟨115792089237316195423570985008687907853269984665640564039457584007913129639936, _, by rw [← e, ← hR]; rw [hell]; omega⟩
set_option maxHeartbeats 4000000
theorem product0 (hG : G 0 = tbl) (a0 a1 a2 a3 b0 b1 b2 b3 : Nat) (ha0 : a0 < 18446744073709551616) (ha1 : a1 < 18446744073709551616) (ha2 : a2 < 18446744073709551616) (ha3 : a3 < 18446744073709551616) (hb0 : b0 < 18446744073709551616) (hb1 : b1 < 18446744073709551616) (hb2 : b2 < 18446744073709551616) (hb3 : b3 < 18446744073709551616) (hA : (a0 + 18446744073709551616 * a1 + 340282366920938463463374607431768211456 * a2 + 6277101735386680763835789423207666416102355444464034512896 * a3) < 7237005577332262213973186563042994240857116359379907606001950938285454250989) (Q : V → Heap → Prop) (hQ : ∀ R : Nat, R < ell → (∃ x y : Nat, 115792089237316195423570985008687907853269984665640564039457584007913129639936 * R + ell * x = (a0 + 18446744073709551616 * a1 + 340282366920938463463374607431768211456 * a2 + 6277101735386680763835789423207666416102355444464034512896 * a3) * (b0 + 18446744073709551616 * b1 + 340282366920938463463374607431768211456 * b2 + 6277101735386680763835789423207666416102355444464034512896 * b3) + ell * y) → Q (lw R) []) : VCall Tryd.prog G 67 [.agg [.int .u64 (a0 : Int), .int .u64 (a1 : Int), .int .u64 (a2 : Int), .int .u64 (a3 : Int)], .agg [.int .u64 (b0 : Int), .int .u64 (b1 : Int), .int .u64 (b2 : Int), .int .u64 (b3 : Int)]] [] Q := by
  refine vcall_body Tryd.func67 nm67 code67 nt67 ?_
  refine run_drive 40 ?_
  simp only [go_sem, Nat.reduceAdd, Nat.reduceSub, Nat.reduceLeDiff, Nat.reduceMul, Nat.reduceLT, Nat.reduceEqDiff, Int.reduceLT, Int.reduceLE, Int.reduceAdd, Int.reduceSub, Int.reduceMul, Int.reduceToNat, reduceIte, reduceCtorEq, Nat.reduceBEq, v67, v67_0, v67_1, v67_2, v67_30]
  refine run_loop ?_
  refine run_drive 40 ?_
  simp only [go_sem, Nat.reduceAdd, Nat.reduceSub, Nat.reduceLeDiff, Nat.reduceMul, Nat.reduceLT, Nat.reduceEqDiff, Int.reduceLT, Int.reduceLE, Int.reduceAdd, Int.reduceSub, Int.reduceMul, Int.reduceToNat, reduceIte, reduceCtorEq, Nat.reduceBEq, v67_29, v67_3, v67_27, v67_4, v67_5, v67_6, v67_13]
  refine run_loop ?_
  refine run_drive 40 ?_
  simp only [go_sem, Nat.reduceAdd, Nat.reduceSub, Nat.reduceLeDiff, Nat.reduceMul, Nat.reduceLT, Nat.reduceEqDiff, Int.reduceLT, Int.reduceLE, Int.reduceAdd, Int.reduceSub, Int.reduceMul, Int.reduceToNat, reduceIte, reduceCtorEq, Nat.reduceBEq, v67_12, v67_7, v67_8, v67_10]
  refine run_drw (by kernel_rfl) ?_
  refine drun_drive 30 (p := (_, _)) ?_
  simp only [go_sem, Nat.reduceAdd, Nat.reduceSub, Nat.reduceLeDiff, Nat.reduceMul, Nat.reduceLT, Nat.reduceEqDiff, Int.reduceLT, Int.reduceLE, Int.reduceAdd, Int.reduceSub, Int.reduceMul, Int.reduceToNat, reduceIte, reduceCtorEq, Nat.reduceBEq, v67_9]
  refine drun_call' ?_
  simp only [go_sem, Nat.reduceAdd, Nat.reduceSub, Nat.reduceLeDiff, Nat.reduceMul, Nat.reduceLT, Nat.reduceEqDiff, Int.reduceLT, Int.reduceLE, Int.reduceAdd, Int.reduceSub, Int.reduceMul, Int.reduceToNat, reduceIte, reduceCtorEq, Nat.reduceBEq, calV]
  refine into' _ _ _ _ ha0 hb0 (by decide : (0 : Nat) < 18446744073709551616) (by decide : (0 : Nat) < 18446744073709551616) _ rfl _ rfl ?_
  intro s00 c00 hs00 hc00 e00
  refine drun_drive 20 (p := (_, _)) ?_
  simp only [go_sem, Nat.reduceAdd, Nat.reduceSub, Nat.reduceLeDiff, Nat.reduceMul, Nat.reduceLT, Nat.reduceEqDiff, Int.reduceLT, Int.reduceLE, Int.reduceAdd, Int.reduceSub, Int.reduceMul, Int.reduceToNat, reduceIte, reduceCtorEq, Nat.reduceBEq]
  refine drun_end ?_
  refine run_drive 40 ?_
  simp only [go_sem, Nat.reduceAdd, Nat.reduceSub, Nat.reduceLeDiff, Nat.reduceMul, Nat.reduceLT, Nat.reduceEqDiff, Int.reduceLT, Int.reduceLE, Int.reduceAdd, Int.reduceSub, Int.reduceMul, Int.reduceToNat, reduceIte, reduceCtorEq, Nat.reduceBEq, v67_11]
  refine run_loop ?_
  refine run_drive 40 ?_
  simp only [go_sem, Nat.reduceAdd, Nat.reduceSub, Nat.reduceLeDiff, Nat.reduceMul, Nat.reduceLT, Nat.reduceEqDiff, Int.reduceLT, Int.reduceLE, Int.reduceAdd, Int.reduceSub, Int.reduceMul, Int.reduceToNat, reduceIte, reduceCtorEq, Nat.reduceBEq, v67_12, v67_7, v67_8, v67_10]
  refine run_drw (by kernel_rfl) ?_
  refine drun_drive 30 (p := (_, _)) ?_
  simp only [go_sem, Nat.reduceAdd, Nat.reduceSub, Nat.reduceLeDiff, Nat.reduceMul, Nat.reduceLT, Nat.reduceEqDiff, Int.reduceLT, Int.reduceLE, Int.reduceAdd, Int.reduceSub, Int.reduceMul, Int.reduceToNat, reduceIte, reduceCtorEq, Nat.reduceBEq, v67_9]
  refine drun_call' ?_
  simp only [go_sem, Nat.reduceAdd, Nat.reduceSub, Nat.reduceLeDiff, Nat.reduceMul, Nat.reduceLT, Nat.reduceEqDiff, Int.reduceLT, Int.reduceLE, Int.reduceAdd, Int.reduceSub, Int.reduceMul, Int.reduceToNat, reduceIte, reduceCtorEq, Nat.reduceBEq, calV]
  refine into' _ _ _ _ ha1 hb0 (by decide : (0 : Nat) < 18446744073709551616) hc00 _ rfl _ rfl ?_
  intro s01 c01 hs01 hc01 e01
  refine drun_drive 20 (p := (_, _)) ?_
  simp only [go_sem, Nat.reduceAdd, Nat.reduceSub, Nat.reduceLeDiff, Nat.reduceMul, Nat.reduceLT, Nat.reduceEqDiff, Int.reduceLT, Int.reduceLE, Int.reduceAdd, Int.reduceSub, Int.reduceMul, Int.reduceToNat, reduceIte, reduceCtorEq, Nat.reduceBEq]
  refine drun_end ?_
  refine run_drive 40 ?_
  simp only [go_sem, Nat.reduceAdd, Nat.reduceSub, Nat.reduceLeDiff, Nat.reduceMul, Nat.reduceLT, Nat.reduceEqDiff, Int.reduceLT, Int.reduceLE, Int.reduceAdd, Int.reduceSub, Int.reduceMul, Int.reduceToNat, reduceIte, reduceCtorEq, Nat.reduceBEq, v67_11]
  refine run_loop ?_
  refine run_drive 40 ?_
  simp only [go_sem, Nat.reduceAdd, Nat.reduceSub, Nat.reduceLeDiff, Nat.reduceMul, Nat.reduceLT, Nat.reduceEqDiff, Int.reduceLT, Int.reduceLE, Int.reduceAdd, Int.reduceSub, Int.reduceMul, Int.reduceToNat, reduceIte, reduceCtorEq, Nat.reduceBEq, v67_12, v67_7, v67_8, v67_10]
  refine run_drw (by kernel_rfl) ?_
  refine drun_drive 30 (p := (_, _)) ?_
  simp only [go_sem, Nat.reduceAdd, Nat.reduceSub, Nat.reduceLeDiff, Nat.reduceMul, Nat.reduceLT, Nat.reduceEqDiff, Int.reduceLT, Int.reduceLE, Int.reduceAdd, Int.reduceSub, Int.reduceMul, Int.reduceToNat, reduceIte, reduceCtorEq, Nat.reduceBEq, v67_9]
  refine drun_call' ?_
  simp only [go_sem, Nat.reduceAdd, Nat.reduceSub, Nat.reduceLeDiff, Nat.reduceMul, Nat.reduceLT, Nat.reduceEqDiff, Int.reduceLT, Int.reduceLE, Int.reduceAdd, Int.reduceSub, Int.reduceMul, Int.reduceToNat, reduceIte, reduceCtorEq, Nat.reduceBEq, calV]
  refine into' _ _ _ _ ha2 hb0 (by decide : (0 : Nat) < 18446744073709551616) hc01 _ rfl _ rfl ?_
  intro s02 c02 hs02 hc02 e02
  refine drun_drive 20 (p := (_, _)) ?_
  simp only [go_sem, Nat.reduceAdd, Nat.reduceSub, Nat.reduceLeDiff, Nat.reduceMul, Nat.reduceLT, Nat.reduceEqDiff, Int.reduceLT, Int.reduceLE, Int.reduceAdd, Int.reduceSub, Int.reduceMul, Int.reduceToNat, reduceIte, reduceCtorEq, Nat.reduceBEq]
  refine drun_end ?_
  refine run_drive 40 ?_
  simp only [go_sem, Nat.reduceAdd, Nat.reduceSub, Nat.reduceLeDiff, Nat.reduceMul, Nat.reduceLT, Nat.reduceEqDiff, Int.reduceLT, Int.reduceLE, Int.reduceAdd, Int.reduceSub, Int.reduceMul, Int.reduceToNat, reduceIte, reduceCtorEq, Nat.reduceBEq, v67_11]
  refine run_loop ?_
  refine run_drive 40 ?_
  simp only [go_sem, Nat.reduceAdd, Nat.reduceSub, Nat.reduceLeDiff, Nat.reduceMul, Nat.reduceLT, Nat.reduceEqDiff, Int.reduceLT, Int.reduceLE, Int.reduceAdd, Int.reduceSub, Int.reduceMul, Int.reduceToNat, reduceIte, reduceCtorEq, Nat.reduceBEq, v67_12, v67_7, v67_8, v67_10]
  refine run_drw (by kernel_rfl) ?_
  refine drun_drive 30 (p := (_, _)) ?_
  simp only [go_sem, Nat.reduceAdd, Nat.reduceSub, Nat.reduceLeDiff, Nat.reduceMul, Nat.reduceLT, Nat.reduceEqDiff, Int.reduceLT, Int.reduceLE, Int.reduceAdd, Int.reduceSub, Int.reduceMul, Int.reduceToNat, reduceIte, reduceCtorEq, Nat.reduceBEq, v67_9]
  refine drun_call' ?_
  simp only [go_sem, Nat.reduceAdd, Nat.reduceSub, Nat.reduceLeDiff, Nat.reduceMul, Nat.reduceLT, Nat.reduceEqDiff, Int.reduceLT, Int.reduceLE, Int.reduceAdd, Int.reduceSub, Int.reduceMul, Int.reduceToNat, reduceIte, reduceCtorEq, Nat.reduceBEq, calV]
  refine into' _ _ _ _ ha3 hb0 (by decide : (0 : Nat) < 18446744073709551616) hc02 _ rfl _ rfl ?_
  intro s03 c03 hs03 hc03 e03
  refine drun_drive 20 (p := (_, _)) ?_
  simp only [go_sem, Nat.reduceAdd, Nat.reduceSub, Nat.reduceLeDiff, Nat.reduceMul, Nat.reduceLT, Nat.reduceEqDiff, Int.reduceLT, Int.reduceLE, Int.reduceAdd, Int.reduceSub, Int.reduceMul, Int.reduceToNat, reduceIte, reduceCtorEq, Nat.reduceBEq]
  refine drun_end ?_
  refine run_drive 40 ?_
  simp only [go_sem, Nat.reduceAdd, Nat.reduceSub, Nat.reduceLeDiff, Nat.reduceMul, Nat.reduceLT, Nat.reduceEqDiff, Int.reduceLT, Int.reduceLE, Int.reduceAdd, Int.reduceSub, Int.reduceMul, Int.reduceToNat, reduceIte, reduceCtorEq, Nat.reduceBEq, v67_11]
  refine run_loop ?_
  refine run_drive 40 ?_
  simp only [go_sem, Nat.reduceAdd, Nat.reduceSub, Nat.reduceLeDiff, Nat.reduceMul, Nat.reduceLT, Nat.reduceEqDiff, Int.reduceLT, Int.reduceLE, Int.reduceAdd, Int.reduceSub, Int.reduceMul, Int.reduceToNat, reduceIte, reduceCtorEq, Nat.reduceBEq, v67_12, v67_7, v67_14]
  refine run_call' rfl ?_
  simp only [go_sem, Nat.reduceAdd, Nat.reduceSub, Nat.reduceLeDiff, Nat.reduceMul, Nat.reduceLT, Nat.reduceEqDiff, Int.reduceLT, Int.reduceLE, Int.reduceAdd, Int.reduceSub, Int.reduceMul, Int.reduceToNat, reduceIte, reduceCtorEq, Nat.reduceBEq, calV]
  refine add64_c 0 c03 0 (by decide) (by decide) hc03 _ rfl _ rfl ?_
  intro s04 k04 hs04 hk04 e04
  refine run_drive 40 ?_
  simp only [go_sem, Nat.reduceAdd, Nat.reduceSub, Nat.reduceLeDiff, Nat.reduceMul, Nat.reduceLT, Nat.reduceEqDiff, Int.reduceLT, Int.reduceLE, Int.reduceAdd, Int.reduceSub, Int.reduceMul, Int.reduceToNat, reduceIte, reduceCtorEq, Nat.reduceBEq, v67_15, v67_16, v67_17, hG, tbl]
  refine run_call' rfl ?_
  simp only [go_sem, Nat.reduceAdd, Nat.reduceSub, Nat.reduceLeDiff, Nat.reduceMul, Nat.reduceLT, Nat.reduceEqDiff, Int.reduceLT, Int.reduceLE, Int.reduceAdd, Int.reduceSub, Int.reduceMul, Int.reduceToNat, reduceIte, reduceCtorEq, Nat.reduceBEq, calV]
  refine into' (w64 (s00 * 15183074304973897243)) 6346243789798364141 s00 0 (Nat.mod_lt _ (by decide)) (by decide) hs00 (by decide) _ rfl _ rfl ?_
  intro z00 d00 hz00 hd00 f00
  refine run_drive 40 ?_
  simp only [go_sem, Nat.reduceAdd, Nat.reduceSub, Nat.reduceLeDiff, Nat.reduceMul, Nat.reduceLT, Nat.reduceEqDiff, Int.reduceLT, Int.reduceLE, Int.reduceAdd, Int.reduceSub, Int.reduceMul, Int.reduceToNat, reduceIte, reduceCtorEq, Nat.reduceBEq, v67_18, v67_24]
  refine run_loop ?_
  refine run_drive 40 ?_
  simp only [go_sem, Nat.reduceAdd, Nat.reduceSub, Nat.reduceLeDiff, Nat.reduceMul, Nat.reduceLT, Nat.reduceEqDiff, Int.reduceLT, Int.reduceLE, Int.reduceAdd, Int.reduceSub, Int.reduceMul, Int.reduceToNat, reduceIte, reduceCtorEq, Nat.reduceBEq, v67_23, v67_19, v67_21]
  refine run_drw (by kernel_rfl) ?_
  refine drun_drive 30 (p := (_, _)) ?_
  simp only [go_sem, Nat.reduceAdd, Nat.reduceSub, Nat.reduceLeDiff, Nat.reduceMul, Nat.reduceLT, Nat.reduceEqDiff, Int.reduceLT, Int.reduceLE, Int.reduceAdd, Int.reduceSub, Int.reduceMul, Int.reduceToNat, reduceIte, reduceCtorEq, Nat.reduceBEq, v67_20, hG, tbl]
  refine drun_call' ?_
  simp only [go_sem, Nat.reduceAdd, Nat.reduceSub, Nat.reduceLeDiff, Nat.reduceMul, Nat.reduceLT, Nat.reduceEqDiff, Int.reduceLT, Int.reduceLE, Int.reduceAdd, Int.reduceSub, Int.reduceMul, Int.reduceToNat, reduceIte, reduceCtorEq, Nat.reduceBEq, calV]
  refine into' (w64 (s00 * 15183074304973897243)) 1503914060200516822 s01 d00 (Nat.mod_lt _ (by decide)) (by decide) hs01 hd00 _ rfl _ rfl ?_
  intro z01 d01 hz01 hd01 f01
  refine drun_drive 20 (p := (_, _)) ?_
  simp only [go_sem, Nat.reduceAdd, Nat.reduceSub, Nat.reduceLeDiff, Nat.reduceMul, Nat.reduceLT, Nat.reduceEqDiff, Int.reduceLT, Int.reduceLE, Int.reduceAdd, Int.reduceSub, Int.reduceMul, Int.reduceToNat, reduceIte, reduceCtorEq, Nat.reduceBEq]
  refine drun_end ?_
  refine run_drive 40 ?_
  simp only [go_sem, Nat.reduceAdd, Nat.reduceSub, Nat.reduceLeDiff, Nat.reduceMul, Nat.reduceLT, Nat.reduceEqDiff, Int.reduceLT, Int.reduceLE, Int.reduceAdd, Int.reduceSub, Int.reduceMul, Int.reduceToNat, reduceIte, reduceCtorEq, Nat.reduceBEq, v67_22]
  refine run_loop ?_
  refine run_drive 40 ?_
  simp only [go_sem, Nat.reduceAdd, Nat.reduceSub, Nat.reduceLeDiff, Nat.reduceMul, Nat.reduceLT, Nat.reduceEqDiff, Int.reduceLT, Int.reduceLE, Int.reduceAdd, Int.reduceSub, Int.reduceMul, Int.reduceToNat, reduceIte, reduceCtorEq, Nat.reduceBEq, v67_23, v67_19, v67_21]
  refine run_drw (by kernel_rfl) ?_
  refine drun_drive 30 (p := (_, _)) ?_
  simp only [go_sem, Nat.reduceAdd, Nat.reduceSub, Nat.reduceLeDiff, Nat.reduceMul, Nat.reduceLT, Nat.reduceEqDiff, Int.reduceLT, Int.reduceLE, Int.reduceAdd, Int.reduceSub, Int.reduceMul, Int.reduceToNat, reduceIte, reduceCtorEq, Nat.reduceBEq, v67_20, hG, tbl]
  refine drun_call' ?_
  simp only [go_sem, Nat.reduceAdd, Nat.reduceSub, Nat.reduceLeDiff, Nat.reduceMul, Nat.reduceLT, Nat.reduceEqDiff, Int.reduceLT, Int.reduceLE, Int.reduceAdd, Int.reduceSub, Int.reduceMul, Int.reduceToNat, reduceIte, reduceCtorEq, Nat.reduceBEq, calV]
  refine into' (w64 (s00 * 15183074304973897243)) 0 s02 d01 (Nat.mod_lt _ (by decide)) (by decide) hs02 hd01 _ rfl _ rfl ?_
  intro z02 d02 hz02 hd02 f02
  refine drun_drive 20 (p := (_, _)) ?_
  simp only [go_sem, Nat.reduceAdd, Nat.reduceSub, Nat.reduceLeDiff, Nat.reduceMul, Nat.reduceLT, Nat.reduceEqDiff, Int.reduceLT, Int.reduceLE, Int.reduceAdd, Int.reduceSub, Int.reduceMul, Int.reduceToNat, reduceIte, reduceCtorEq, Nat.reduceBEq]
  refine drun_end ?_
  refine run_drive 40 ?_
  simp only [go_sem, Nat.reduceAdd, Nat.reduceSub, Nat.reduceLeDiff, Nat.reduceMul, Nat.reduceLT, Nat.reduceEqDiff, Int.reduceLT, Int.reduceLE, Int.reduceAdd, Int.reduceSub, Int.reduceMul, Int.reduceToNat, reduceIte, reduceCtorEq, Nat.reduceBEq, v67_22]
  refine run_loop ?_
  refine run_drive 40 ?_
  simp only [go_sem, Nat.reduceAdd, Nat.reduceSub, Nat.reduceLeDiff, Nat.reduceMul, Nat.reduceLT, Nat.reduceEqDiff, Int.reduceLT, Int.reduceLE, Int.reduceAdd, Int.reduceSub, Int.reduceMul, Int.reduceToNat, reduceIte, reduceCtorEq, Nat.reduceBEq, v67_23, v67_19, v67_21]
  refine run_drw (by kernel_rfl) ?_
  refine drun_drive 30 (p := (_, _)) ?_
  simp only [go_sem, Nat.reduceAdd, Nat.reduceSub, Nat.reduceLeDiff, Nat.reduceMul, Nat.reduceLT, Nat.reduceEqDiff, Int.reduceLT, Int.reduceLE, Int.reduceAdd, Int.reduceSub, Int.reduceMul, Int.reduceToNat, reduceIte, reduceCtorEq, Nat.reduceBEq, v67_20, hG, tbl]
  refine drun_call' ?_
  simp only [go_sem, Nat.reduceAdd, Nat.reduceSub, Nat.reduceLeDiff, Nat.reduceMul, Nat.reduceLT, Nat.reduceEqDiff, Int.reduceLT, Int.reduceLE, Int.reduceAdd, Int.reduceSub, Int.reduceMul, Int.reduceToNat, reduceIte, reduceCtorEq, Nat.reduceBEq, calV]
  refine into' (w64 (s00 * 15183074304973897243)) 1152921504606846976 s03 d02 (Nat.mod_lt _ (by decide)) (by decide) hs03 hd02 _ rfl _ rfl ?_
  intro z03 d03 hz03 hd03 f03
  refine drun_drive 20 (p := (_, _)) ?_
  simp only [go_sem, Nat.reduceAdd, Nat.reduceSub, Nat.reduceLeDiff, Nat.reduceMul, Nat.reduceLT, Nat.reduceEqDiff, Int.reduceLT, Int.reduceLE, Int.reduceAdd, Int.reduceSub, Int.reduceMul, Int.reduceToNat, reduceIte, reduceCtorEq, Nat.reduceBEq]
  refine drun_end ?_
  refine run_drive 40 ?_
  simp only [go_sem, Nat.reduceAdd, Nat.reduceSub, Nat.reduceLeDiff, Nat.reduceMul, Nat.reduceLT, Nat.reduceEqDiff, Int.reduceLT, Int.reduceLE, Int.reduceAdd, Int.reduceSub, Int.reduceMul, Int.reduceToNat, reduceIte, reduceCtorEq, Nat.reduceBEq, v67_22]
  refine run_loop ?_
  refine run_drive 40 ?_
  simp only [go_sem, Nat.reduceAdd, Nat.reduceSub, Nat.reduceLeDiff, Nat.reduceMul, Nat.reduceLT, Nat.reduceEqDiff, Int.reduceLT, Int.reduceLE, Int.reduceAdd, Int.reduceSub, Int.reduceMul, Int.reduceToNat, reduceIte, reduceCtorEq, Nat.reduceBEq, v67_23, v67_19, v67_25]
  refine run_call' rfl ?_
  simp only [go_sem, Nat.reduceAdd, Nat.reduceSub, Nat.reduceLeDiff, Nat.reduceMul, Nat.reduceLT, Nat.reduceEqDiff, Int.reduceLT, Int.reduceLE, Int.reduceAdd, Int.reduceSub, Int.reduceMul, Int.reduceToNat, reduceIte, reduceCtorEq, Nat.reduceBEq, calV]
  refine add64_c s04 d03 0 (by decide) hs04 hd03 _ rfl _ rfl ?_
  intro z04 k05 hz04 hk05 f04
  refine run_drive 40 ?_
  simp only [go_sem, Nat.reduceAdd, Nat.reduceSub, Nat.reduceLeDiff, Nat.reduceMul, Nat.reduceLT, Nat.reduceEqDiff, Int.reduceLT, Int.reduceLE, Int.reduceAdd, Int.reduceSub, Int.reduceMul, Int.reduceToNat, reduceIte, reduceCtorEq, Nat.reduceBEq, v67_26, v67_28]
  obtain ⟨w0, T0, m0, M0⟩ := round_law a0 a1 a2 a3 b0 0 0 0 0 s00 s01 s02 s03 s04 c00 c01 c02 c03 k04 z00 z01 z02 z03 z04 d00 d01 d02 d03 k05 hb0 hA (by decide) hs00 hz00 hz01 hz02 hz03 hz04 e00 e01 e02 e03 e04 f00 f01 f02 f03 f04
  rw [w0]
  clear e00 e01 e02 e03 e04 f00 f01 f02 f03 f04 w0
  refine run_loop ?_
  refine run_drive 40 ?_
  simp only [go_sem, Nat.reduceAdd, Nat.reduceSub, Nat.reduceLeDiff, Nat.reduceMul, Nat.reduceLT, Nat.reduceEqDiff, Int.reduceLT, Int.reduceLE, Int.reduceAdd, Int.reduceSub, Int.reduceMul, Int.reduceToNat, reduceIte, reduceCtorEq, Nat.reduceBEq, v67_29, v67_3, v67_27, v67_4, v67_5, v67_6, v67_13]
  refine run_loop ?_
  refine run_drive 40 ?_
  simp only [go_sem, Nat.reduceAdd, Nat.reduceSub, Nat.reduceLeDiff, Nat.reduceMul, Nat.reduceLT, Nat.reduceEqDiff, Int.reduceLT, Int.reduceLE, Int.reduceAdd, Int.reduceSub, Int.reduceMul, Int.reduceToNat, reduceIte, reduceCtorEq, Nat.reduceBEq, v67_12, v67_7, v67_8, v67_10]
  refine run_drw (by kernel_rfl) ?_
  refine drun_drive 30 (p := (_, _)) ?_
  simp only [go_sem, Nat.reduceAdd, Nat.reduceSub, Nat.reduceLeDiff, Nat.reduceMul, Nat.reduceLT, Nat.reduceEqDiff, Int.reduceLT, Int.reduceLE, Int.reduceAdd, Int.reduceSub, Int.reduceMul, Int.reduceToNat, reduceIte, reduceCtorEq, Nat.reduceBEq, v67_9]
  refine drun_call' ?_
  simp only [go_sem, Nat.reduceAdd, Nat.reduceSub, Nat.reduceLeDiff, Nat.reduceMul, Nat.reduceLT, Nat.reduceEqDiff, Int.reduceLT, Int.reduceLE, Int.reduceAdd, Int.reduceSub, Int.reduceMul, Int.reduceToNat, reduceIte, reduceCtorEq, Nat.reduceBEq, calV]
  refine into' _ _ _ _ ha0 hb1 hz01 (by decide : (0 : Nat) < 18446744073709551616) _ rfl _ rfl ?_
  intro s10 c10 hs10 hc10 e10
  refine drun_drive 20 (p := (_, _)) ?_
  simp only [go_sem, Nat.reduceAdd, Nat.reduceSub, Nat.reduceLeDiff, Nat.reduceMul, Nat.reduceLT, Nat.reduceEqDiff, Int.reduceLT, Int.reduceLE, Int.reduceAdd, Int.reduceSub, Int.reduceMul, Int.reduceToNat, reduceIte, reduceCtorEq, Nat.reduceBEq]
  refine drun_end ?_
  refine run_drive 40 ?_
  simp only [go_sem, Nat.reduceAdd, Nat.reduceSub, Nat.reduceLeDiff, Nat.reduceMul, Nat.reduceLT, Nat.reduceEqDiff, Int.reduceLT, Int.reduceLE, Int.reduceAdd, Int.reduceSub, Int.reduceMul, Int.reduceToNat, reduceIte, reduceCtorEq, Nat.reduceBEq, v67_11]
  refine run_loop ?_
  refine run_drive 40 ?_
  simp only [go_sem, Nat.reduceAdd, Nat.reduceSub, Nat.reduceLeDiff, Nat.reduceMul, Nat.reduceLT, Nat.reduceEqDiff, Int.reduceLT, Int.reduceLE, Int.reduceAdd, Int.reduceSub, Int.reduceMul, Int.reduceToNat, reduceIte, reduceCtorEq, Nat.reduceBEq, v67_12, v67_7, v67_8, v67_10]
  refine run_drw (by kernel_rfl) ?_
  refine drun_drive 30 (p := (_, _)) ?_
  simp only [go_sem, Nat.reduceAdd, Nat.reduceSub, Nat.reduceLeDiff, Nat.reduceMul, Nat.reduceLT, Nat.reduceEqDiff, Int.reduceLT, Int.reduceLE, Int.reduceAdd, Int.reduceSub, Int.reduceMul, Int.reduceToNat, reduceIte, reduceCtorEq, Nat.reduceBEq, v67_9]
  refine drun_call' ?_
  simp only [go_sem, Nat.reduceAdd, Nat.reduceSub, Nat.reduceLeDiff, Nat.reduceMul, Nat.reduceLT, Nat.reduceEqDiff, Int.reduceLT, Int.reduceLE, Int.reduceAdd, Int.reduceSub, Int.reduceMul, Int.reduceToNat, reduceIte, reduceCtorEq, Nat.reduceBEq, calV]
  refine into' _ _ _ _ ha1 hb1 hz02 hc10 _ rfl _ rfl ?_
  intro s11 c11 hs11 hc11 e11
  refine drun_drive 20 (p := (_, _)) ?_
  simp only [go_sem, Nat.reduceAdd, Nat.reduceSub, Nat.reduceLeDiff, Nat.reduceMul, Nat.reduceLT, Nat.reduceEqDiff, Int.reduceLT, Int.reduceLE, Int.reduceAdd, Int.reduceSub, Int.reduceMul, Int.reduceToNat, reduceIte, reduceCtorEq, Nat.reduceBEq]
  refine drun_end ?_
  refine run_drive 40 ?_
  simp only [go_sem, Nat.reduceAdd, Nat.reduceSub, Nat.reduceLeDiff, Nat.reduceMul, Nat.reduceLT, Nat.reduceEqDiff, Int.reduceLT, Int.reduceLE, Int.reduceAdd, Int.reduceSub, Int.reduceMul, Int.reduceToNat, reduceIte, reduceCtorEq, Nat.reduceBEq, v67_11]
  refine run_loop ?_
  refine run_drive 40 ?_
  simp only [go_sem, Nat.reduceAdd, Nat.reduceSub, Nat.reduceLeDiff, Nat.reduceMul, Nat.reduceLT, Nat.reduceEqDiff, Int.reduceLT, Int.reduceLE, Int.reduceAdd, Int.reduceSub, Int.reduceMul, Int.reduceToNat, reduceIte, reduceCtorEq, Nat.reduceBEq, v67_12, v67_7, v67_8, v67_10]
  refine run_drw (by kernel_rfl) ?_
  refine drun_drive 30 (p := (_, _)) ?_
  simp only [go_sem, Nat.reduceAdd, Nat.reduceSub, Nat.reduceLeDiff, Nat.reduceMul, Nat.reduceLT, Nat.reduceEqDiff, Int.reduceLT, Int.reduceLE, Int.reduceAdd, Int.reduceSub, Int.reduceMul, Int.reduceToNat, reduceIte, reduceCtorEq, Nat.reduceBEq, v67_9]
  refine drun_call' ?_
  simp only [go_sem, Nat.reduceAdd, Nat.reduceSub, Nat.reduceLeDiff, Nat.reduceMul, Nat.reduceLT, Nat.reduceEqDiff, Int.reduceLT, Int.reduceLE, Int.reduceAdd, Int.reduceSub, Int.reduceMul, Int.reduceToNat, reduceIte, reduceCtorEq, Nat.reduceBEq, calV]
  refine into' _ _ _ _ ha2 hb1 hz03 hc11 _ rfl _ rfl ?_
  intro s12 c12 hs12 hc12 e12
  refine drun_drive 20 (p := (_, _)) ?_
  simp only [go_sem, Nat.reduceAdd, Nat.reduceSub, Nat.reduceLeDiff, Nat.reduceMul, Nat.reduceLT, Nat.reduceEqDiff, Int.reduceLT, Int.reduceLE, Int.reduceAdd, Int.reduceSub, Int.reduceMul, Int.reduceToNat, reduceIte, reduceCtorEq, Nat.reduceBEq]
  refine drun_end ?_
  refine run_drive 40 ?_
  simp only [go_sem, Nat.reduceAdd, Nat.reduceSub, Nat.reduceLeDiff, Nat.reduceMul, Nat.reduceLT, Nat.reduceEqDiff, Int.reduceLT, Int.reduceLE, Int.reduceAdd, Int.reduceSub, Int.reduceMul, Int.reduceToNat, reduceIte, reduceCtorEq, Nat.reduceBEq, v67_11]
  refine run_loop ?_
  refine run_drive 40 ?_
  simp only [go_sem, Nat.reduceAdd, Nat.reduceSub, Nat.reduceLeDiff, Nat.reduceMul, Nat.reduceLT, Nat.reduceEqDiff, Int.reduceLT, Int.reduceLE, Int.reduceAdd, Int.reduceSub, Int.reduceMul, Int.reduceToNat, reduceIte, reduceCtorEq, Nat.reduceBEq, v67_12, v67_7, v67_8, v67_10]
  refine run_drw (by kernel_rfl) ?_
  refine drun_drive 30 (p := (_, _)) ?_
  simp only [go_sem, Nat.reduceAdd, Nat.reduceSub, Nat.reduceLeDiff, Nat.reduceMul, Nat.reduceLT, Nat.reduceEqDiff, Int.reduceLT, Int.reduceLE, Int.reduceAdd, Int.reduceSub, Int.reduceMul, Int.reduceToNat, reduceIte, reduceCtorEq, Nat.reduceBEq, v67_9]
  refine drun_call' ?_
  simp only [go_sem, Nat.reduceAdd, Nat.reduceSub, Nat.reduceLeDiff, Nat.reduceMul, Nat.reduceLT, Nat.reduceEqDiff, Int.reduceLT, Int.reduceLE, Int.reduceAdd, Int.reduceSub, Int.reduceMul, Int.reduceToNat, reduceIte, reduceCtorEq, Nat.reduceBEq, calV]
  refine into' _ _ _ _ ha3 hb1 hz04 hc12 _ rfl _ rfl ?_
  intro s13 c13 hs13 hc13 e13
  refine drun_drive 20 (p := (_, _)) ?_
  simp only [go_sem, Nat.reduceAdd, Nat.reduceSub, Nat.reduceLeDiff, Nat.reduceMul, Nat.reduceLT, Nat.reduceEqDiff, Int.reduceLT, Int.reduceLE, Int.reduceAdd, Int.reduceSub, Int.reduceMul, Int.reduceToNat, reduceIte, reduceCtorEq, Nat.reduceBEq]
  refine drun_end ?_
  refine run_drive 40 ?_
  simp only [go_sem, Nat.reduceAdd, Nat.reduceSub, Nat.reduceLeDiff, Nat.reduceMul, Nat.reduceLT, Nat.reduceEqDiff, Int.reduceLT, Int.reduceLE, Int.reduceAdd, Int.reduceSub, Int.reduceMul, Int.reduceToNat, reduceIte, reduceCtorEq, Nat.reduceBEq, v67_11]
  refine run_loop ?_
  refine run_drive 40 ?_
  simp only [go_sem, Nat.reduceAdd, Nat.reduceSub, Nat.reduceLeDiff, Nat.reduceMul, Nat.reduceLT, Nat.reduceEqDiff, Int.reduceLT, Int.reduceLE, Int.reduceAdd, Int.reduceSub, Int.reduceMul, Int.reduceToNat, reduceIte, reduceCtorEq, Nat.reduceBEq, v67_12, v67_7, v67_14]
  refine run_call' rfl ?_
  simp only [go_sem, Nat.reduceAdd, Nat.reduceSub, Nat.reduceLeDiff, Nat.reduceMul, Nat.reduceLT, Nat.reduceEqDiff, Int.reduceLT, Int.reduceLE, Int.reduceAdd, Int.reduceSub, Int.reduceMul, Int.reduceToNat, reduceIte, reduceCtorEq, Nat.reduceBEq, calV]
  refine add64_c 0 c13 0 (by decide) (by decide) hc13 _ rfl _ rfl ?_
  intro s14 k14 hs14 hk14 e14
  refine run_drive 40 ?_
  simp only [go_sem, Nat.reduceAdd, Nat.reduceSub, Nat.reduceLeDiff, Nat.reduceMul, Nat.reduceLT, Nat.reduceEqDiff, Int.reduceLT, Int.reduceLE, Int.reduceAdd, Int.reduceSub, Int.reduceMul, Int.reduceToNat, reduceIte, reduceCtorEq, Nat.reduceBEq, v67_15, v67_16, v67_17, hG, tbl]
  refine run_call' rfl ?_
  simp only [go_sem, Nat.reduceAdd, Nat.reduceSub, Nat.reduceLeDiff, Nat.reduceMul, Nat.reduceLT, Nat.reduceEqDiff, Int.reduceLT, Int.reduceLE, Int.reduceAdd, Int.reduceSub, Int.reduceMul, Int.reduceToNat, reduceIte, reduceCtorEq, Nat.reduceBEq, calV]
  refine into' (w64 (s10 * 15183074304973897243)) 6346243789798364141 s10 0 (Nat.mod_lt _ (by decide)) (by decide) hs10 (by decide) _ rfl _ rfl ?_
  intro z10 d10 hz10 hd10 f10
  refine run_drive 40 ?_
  simp only [go_sem, Nat.reduceAdd, Nat.reduceSub, Nat.reduceLeDiff, Nat.reduceMul, Nat.reduceLT, Nat.reduceEqDiff, Int.reduceLT, Int.reduceLE, Int.reduceAdd, Int.reduceSub, Int.reduceMul, Int.reduceToNat, reduceIte, reduceCtorEq, Nat.reduceBEq, v67_18, v67_24]
  refine run_loop ?_
  refine run_drive 40 ?_
  simp only [go_sem, Nat.reduceAdd, Nat.reduceSub, Nat.reduceLeDiff, Nat.reduceMul, Nat.reduceLT, Nat.reduceEqDiff, Int.reduceLT, Int.reduceLE, Int.reduceAdd, Int.reduceSub, Int.reduceMul, Int.reduceToNat, reduceIte, reduceCtorEq, Nat.reduceBEq, v67_23, v67_19, v67_21]
  refine run_drw (by kernel_rfl) ?_
  refine drun_drive 30 (p := (_, _)) ?_
  simp only [go_sem, Nat.reduceAdd, Nat.reduceSub, Nat.reduceLeDiff, Nat.reduceMul, Nat.reduceLT, Nat.reduceEqDiff, Int.reduceLT, Int.reduceLE, Int.reduceAdd, Int.reduceSub, Int.reduceMul, Int.reduceToNat, reduceIte, reduceCtorEq, Nat.reduceBEq, v67_20, hG, tbl]
  refine drun_call' ?_
  simp only [go_sem, Nat.reduceAdd, Nat.reduceSub, Nat.reduceLeDiff, Nat.reduceMul, Nat.reduceLT, Nat.reduceEqDiff, Int.reduceLT, Int.reduceLE, Int.reduceAdd, Int.reduceSub, Int.reduceMul, Int.reduceToNat, reduceIte, reduceCtorEq, Nat.reduceBEq, calV]
  refine into' (w64 (s10 * 15183074304973897243)) 1503914060200516822 s11 d10 (Nat.mod_lt _ (by decide)) (by decide) hs11 hd10 _ rfl _ rfl ?_
  intro z11 d11 hz11 hd11 f11
  refine drun_drive 20 (p := (_, _)) ?_
  simp only [go_sem, Nat.reduceAdd, Nat.reduceSub, Nat.reduceLeDiff, Nat.reduceMul, Nat.reduceLT, Nat.reduceEqDiff, Int.reduceLT, Int.reduceLE, Int.reduceAdd, Int.reduceSub, Int.reduceMul, Int.reduceToNat, reduceIte, reduceCtorEq, Nat.reduceBEq]
  refine drun_end ?_
  refine run_drive 40 ?_
  simp only [go_sem, Nat.reduceAdd, Nat.reduceSub, Nat.reduceLeDiff, Nat.reduceMul, Nat.reduceLT, Nat.reduceEqDiff, Int.reduceLT, Int.reduceLE, Int.reduceAdd, Int.reduceSub, Int.reduceMul, Int.reduceToNat, reduceIte, reduceCtorEq, Nat.reduceBEq, v67_22]
  refine run_loop ?_
  refine run_drive 40 ?_
  simp only [go_sem, Nat.reduceAdd, Nat.reduceSub, Nat.reduceLeDiff, Nat.reduceMul, Nat.reduceLT, Nat.reduceEqDiff, Int.reduceLT, Int.reduceLE, Int.reduceAdd, Int.reduceSub, Int.reduceMul, Int.reduceToNat, reduceIte, reduceCtorEq, Nat.reduceBEq, v67_23, v67_19, v67_21]
  refine run_drw (by kernel_rfl) ?_
  refine drun_drive 30 (p := (_, _)) ?_
  simp only [go_sem, Nat.reduceAdd, Nat.reduceSub, Nat.reduceLeDiff, Nat.reduceMul, Nat.reduceLT, Nat.reduceEqDiff, Int.reduceLT, Int.reduceLE, Int.reduceAdd, Int.reduceSub, Int.reduceMul, Int.reduceToNat, reduceIte, reduceCtorEq, Nat.reduceBEq, v67_20, hG, tbl]
  refine drun_call' ?_
  simp only [go_sem, Nat.reduceAdd, Nat.reduceSub, Nat.reduceLeDiff, Nat.reduceMul, Nat.reduceLT, Nat.reduceEqDiff, Int.reduceLT, Int.reduceLE, Int.reduceAdd, Int.reduceSub, Int.reduceMul, Int.reduceToNat, reduceIte, reduceCtorEq, Nat.reduceBEq, calV]
  refine into' (w64 (s10 * 15183074304973897243)) 0 s12 d11 (Nat.mod_lt _ (by decide)) (by decide) hs12 hd11 _ rfl _ rfl ?_
  intro z12 d12 hz12 hd12 f12
  refine drun_drive 20 (p := (_, _)) ?_
  simp only [go_sem, Nat.reduceAdd, Nat.reduceSub, Nat.reduceLeDiff, Nat.reduceMul, Nat.reduceLT, Nat.reduceEqDiff, Int.reduceLT, Int.reduceLE, Int.reduceAdd, Int.reduceSub, Int.reduceMul, Int.reduceToNat, reduceIte, reduceCtorEq, Nat.reduceBEq]
  refine drun_end ?_
  refine run_drive 40 ?_
  simp only [go_sem, Nat.reduceAdd, Nat.reduceSub, Nat.reduceLeDiff, Nat.reduceMul, Nat.reduceLT, Nat.reduceEqDiff, Int.reduceLT, Int.reduceLE, Int.reduceAdd, Int.reduceSub, Int.reduceMul, Int.reduceToNat, reduceIte, reduceCtorEq, Nat.reduceBEq, v67_22]
  refine run_loop ?_
  refine run_drive 40 ?_
  simp only [go_sem, Nat.reduceAdd, Nat.reduceSub, Nat.reduceLeDiff, Nat.reduceMul, Nat.reduceLT, Nat.reduceEqDiff, Int.reduceLT, Int.reduceLE, Int.reduceAdd, Int.reduceSub, Int.reduceMul, Int.reduceToNat, reduceIte, reduceCtorEq, Nat.reduceBEq, v67_23, v67_19, v67_21]
  refine run_drw (by kernel_rfl) ?_
  refine drun_drive 30 (p := (_, _)) ?_
  simp only [go_sem, Nat.reduceAdd, Nat.reduceSub, Nat.reduceLeDiff, Nat.reduceMul, Nat.reduceLT, Nat.reduceEqDiff, Int.reduceLT, Int.reduceLE, Int.reduceAdd, Int.reduceSub, Int.reduceMul, Int.reduceToNat, reduceIte, reduceCtorEq, Nat.reduceBEq, v67_20, hG, tbl]
  refine drun_call' ?_
  simp only [go_sem, Nat.reduceAdd, Nat.reduceSub, Nat.reduceLeDiff, Nat.reduceMul, Nat.reduceLT, Nat.reduceEqDiff, Int.reduceLT, Int.reduceLE, Int.reduceAdd, Int.reduceSub, Int.reduceMul, Int.reduceToNat, reduceIte, reduceCtorEq, Nat.reduceBEq, calV]
  refine into' (w64 (s10 * 15183074304973897243)) 1152921504606846976 s13 d12 (Nat.mod_lt _ (by decide)) (by decide) hs13 hd12 _ rfl _ rfl ?_
  intro z13 d13 hz13 hd13 f13
  refine drun_drive 20 (p := (_, _)) ?_
  simp only [go_sem, Nat.reduceAdd, Nat.reduceSub, Nat.reduceLeDiff, Nat.reduceMul, Nat.reduceLT, Nat.reduceEqDiff, Int.reduceLT, Int.reduceLE, Int.reduceAdd, Int.reduceSub, Int.reduceMul, Int.reduceToNat, reduceIte, reduceCtorEq, Nat.reduceBEq]
  refine drun_end ?_
  refine run_drive 40 ?_
  simp only [go_sem, Nat.reduceAdd, Nat.reduceSub, Nat.reduceLeDiff, Nat.reduceMul, Nat.reduceLT, Nat.reduceEqDiff, Int.reduceLT, Int.reduceLE, Int.reduceAdd, Int.reduceSub, Int.reduceMul, Int.reduceToNat, reduceIte, reduceCtorEq, Nat.reduceBEq, v67_22]
  refine run_loop ?_
  refine run_drive 40 ?_
  simp only [go_sem, Nat.reduceAdd, Nat.reduceSub, Nat.reduceLeDiff, Nat.reduceMul, Nat.reduceLT, Nat.reduceEqDiff, Int.reduceLT, Int.reduceLE, Int.reduceAdd, Int.reduceSub, Int.reduceMul, Int.reduceToNat, reduceIte, reduceCtorEq, Nat.reduceBEq, v67_23, v67_19, v67_25]
  refine run_call' rfl ?_
  simp only [go_sem, Nat.reduceAdd, Nat.reduceSub, Nat.reduceLeDiff, Nat.reduceMul, Nat.reduceLT, Nat.reduceEqDiff, Int.reduceLT, Int.reduceLE, Int.reduceAdd, Int.reduceSub, Int.reduceMul, Int.reduceToNat, reduceIte, reduceCtorEq, Nat.reduceBEq, calV]
  refine add64_c s14 d13 0 (by decide) hs14 hd13 _ rfl _ rfl ?_
  intro z14 k15 hz14 hk15 f14
  refine run_drive 40 ?_
  simp only [go_sem, Nat.reduceAdd, Nat.reduceSub, Nat.reduceLeDiff, Nat.reduceMul, Nat.reduceLT, Nat.reduceEqDiff, Int.reduceLT, Int.reduceLE, Int.reduceAdd, Int.reduceSub, Int.reduceMul, Int.reduceToNat, reduceIte, reduceCtorEq, Nat.reduceBEq, v67_26, v67_28]
  obtain ⟨w1, T1, m1, M1⟩ := round_law a0 a1 a2 a3 b1 z01 z02 z03 z04 s10 s11 s12 s13 s14 c10 c11 c12 c13 k14 z10 z11 z12 z13 z14 d10 d11 d12 d13 k15 hb1 hA T0 hs10 hz10 hz11 hz12 hz13 hz14 e10 e11 e12 e13 e14 f10 f11 f12 f13 f14
  rw [w1]
  clear e10 e11 e12 e13 e14 f10 f11 f12 f13 f14 w1
  refine run_loop ?_
  refine run_drive 40 ?_
  simp only [go_sem, Nat.reduceAdd, Nat.reduceSub, Nat.reduceLeDiff, Nat.reduceMul, Nat.reduceLT, Nat.reduceEqDiff, Int.reduceLT, Int.reduceLE, Int.reduceAdd, Int.reduceSub, Int.reduceMul, Int.reduceToNat, reduceIte, reduceCtorEq, Nat.reduceBEq, v67_29, v67_3, v67_27, v67_4, v67_5, v67_6, v67_13]
  refine run_loop ?_
  refine run_drive 40 ?_
  simp only [go_sem, Nat.reduceAdd, Nat.reduceSub, Nat.reduceLeDiff, Nat.reduceMul, Nat.reduceLT, Nat.reduceEqDiff, Int.reduceLT, Int.reduceLE, Int.reduceAdd, Int.reduceSub, Int.reduceMul, Int.reduceToNat, reduceIte, reduceCtorEq, Nat.reduceBEq, v67_12, v67_7, v67_8, v67_10]
  refine run_drw (by kernel_rfl) ?_
  refine drun_drive 30 (p := (_, _)) ?_
  simp only [go_sem, Nat.reduceAdd, Nat.reduceSub, Nat.reduceLeDiff, Nat.reduceMul, Nat.reduceLT, Nat.reduceEqDiff, Int.reduceLT, Int.reduceLE, Int.reduceAdd, Int.reduceSub, Int.reduceMul, Int.reduceToNat, reduceIte, reduceCtorEq, Nat.reduceBEq, v67_9]
  refine drun_call' ?_
  simp only [go_sem, Nat.reduceAdd, Nat.reduceSub, Nat.reduceLeDiff, Nat.reduceMul, Nat.reduceLT, Nat.reduceEqDiff, Int.reduceLT, Int.reduceLE, Int.reduceAdd, Int.reduceSub, Int.reduceMul, Int.reduceToNat, reduceIte, reduceCtorEq, Nat.reduceBEq, calV]
  refine into' _ _ _ _ ha0 hb2 hz11 (by decide : (0 : Nat) < 18446744073709551616) _ rfl _ rfl ?_
  intro s20 c20 hs20 hc20 e20
  refine drun_drive 20 (p := (_, _)) ?_
  simp only [go_sem, Nat.reduceAdd, Nat.reduceSub, Nat.reduceLeDiff, Nat.reduceMul, Nat.reduceLT, Nat.reduceEqDiff, Int.reduceLT, Int.reduceLE, Int.reduceAdd, Int.reduceSub, Int.reduceMul, Int.reduceToNat, reduceIte, reduceCtorEq, Nat.reduceBEq]
  refine drun_end ?_
  refine run_drive 40 ?_
  simp only [go_sem, Nat.reduceAdd, Nat.reduceSub, Nat.reduceLeDiff, Nat.reduceMul, Nat.reduceLT, Nat.reduceEqDiff, Int.reduceLT, Int.reduceLE, Int.reduceAdd, Int.reduceSub, Int.reduceMul, Int.reduceToNat, reduceIte, reduceCtorEq, Nat.reduceBEq, v67_11]
  refine run_loop ?_
  refine run_drive 40 ?_
  simp only [go_sem, Nat.reduceAdd, Nat.reduceSub, Nat.reduceLeDiff, Nat.reduceMul, Nat.reduceLT, Nat.reduceEqDiff, Int.reduceLT, Int.reduceLE, Int.reduceAdd, Int.reduceSub, Int.reduceMul, Int.reduceToNat, reduceIte, reduceCtorEq, Nat.reduceBEq, v67_12, v67_7, v67_8, v67_10]
  refine run_drw (by kernel_rfl) ?_
  refine drun_drive 30 (p := (_, _)) ?_
  simp only [go_sem, Nat.reduceAdd, Nat.reduceSub, Nat.reduceLeDiff, Nat.reduceMul, Nat.reduceLT, Nat.reduceEqDiff, Int.reduceLT, Int.reduceLE, Int.reduceAdd, Int.reduceSub, Int.reduceMul, Int.reduceToNat, reduceIte, reduceCtorEq, Nat.reduceBEq, v67_9]
  refine drun_call' ?_
  simp only [go_sem, Nat.reduceAdd, Nat.reduceSub, Nat.reduceLeDiff, Nat.reduceMul, Nat.reduceLT, Nat.reduceEqDiff, Int.reduceLT, Int.reduceLE, Int.reduceAdd, Int.reduceSub, Int.reduceMul, Int.reduceToNat, reduceIte, reduceCtorEq, Nat.reduceBEq, calV]
  refine into' _ _ _ _ ha1 hb2 hz12 hc20 _ rfl _ rfl ?_
  intro s21 c21 hs21 hc21 e21
  refine drun_drive 20 (p := (_, _)) ?_
  simp only [go_sem, Nat.reduceAdd, Nat.reduceSub, Nat.reduceLeDiff, Nat.reduceMul, Nat.reduceLT, Nat.reduceEqDiff, Int.reduceLT, Int.reduceLE, Int.reduceAdd, Int.reduceSub, Int.reduceMul, Int.reduceToNat, reduceIte, reduceCtorEq, Nat.reduceBEq]
  refine drun_end ?_
  refine run_drive 40 ?_
  simp only [go_sem, Nat.reduceAdd, Nat.reduceSub, Nat.reduceLeDiff, Nat.reduceMul, Nat.reduceLT, Nat.reduceEqDiff, Int.reduceLT, Int.reduceLE, Int.reduceAdd, Int.reduceSub, Int.reduceMul, Int.reduceToNat, reduceIte, reduceCtorEq, Nat.reduceBEq, v67_11]
  refine run_loop ?_
  refine run_drive 40 ?_
  simp only [go_sem, Nat.reduceAdd, Nat.reduceSub, Nat.reduceLeDiff, Nat.reduceMul, Nat.reduceLT, Nat.reduceEqDiff, Int.reduceLT, Int.reduceLE, Int.reduceAdd, Int.reduceSub, Int.reduceMul, Int.reduceToNat, reduceIte, reduceCtorEq, Nat.reduceBEq, v67_12, v67_7, v67_8, v67_10]
  refine run_drw (by kernel_rfl) ?_
  refine drun_drive 30 (p := (_, _)) ?_
  simp only [go_sem, Nat.reduceAdd, Nat.reduceSub, Nat.reduceLeDiff, Nat.reduceMul, Nat.reduceLT, Nat.reduceEqDiff, Int.reduceLT, Int.reduceLE, Int.reduceAdd, Int.reduceSub, Int.reduceMul, Int.reduceToNat, reduceIte, reduceCtorEq, Nat.reduceBEq, v67_9]
  refine drun_call' ?_
  simp only [go_sem, Nat.reduceAdd, Nat.reduceSub, Nat.reduceLeDiff, Nat.reduceMul, Nat.reduceLT, Nat.reduceEqDiff, Int.reduceLT, Int.reduceLE, Int.reduceAdd, Int.reduceSub, Int.reduceMul, Int.reduceToNat, reduceIte, reduceCtorEq, Nat.reduceBEq, calV]
  refine into' _ _ _ _ ha2 hb2 hz13 hc21 _ rfl _ rfl ?_
  intro s22 c22 hs22 hc22 e22
  refine drun_drive 20 (p := (_, _)) ?_
  simp only [go_sem, Nat.reduceAdd, Nat.reduceSub, Nat.reduceLeDiff, Nat.reduceMul, Nat.reduceLT, Nat.reduceEqDiff, Int.reduceLT, Int.reduceLE, Int.reduceAdd, Int.reduceSub, Int.reduceMul, Int.reduceToNat, reduceIte, reduceCtorEq, Nat.reduceBEq]
  refine drun_end ?_
  refine run_drive 40 ?_
  simp only [go_sem, Nat.reduceAdd, Nat.reduceSub, Nat.reduceLeDiff, Nat.reduceMul, Nat.reduceLT, Nat.reduceEqDiff, Int.reduceLT, Int.reduceLE, Int.reduceAdd, Int.reduceSub, Int.reduceMul, Int.reduceToNat, reduceIte, reduceCtorEq, Nat.reduceBEq, v67_11]
  refine run_loop ?_
  refine run_drive 40 ?_
  simp only [go_sem, Nat.reduceAdd, Nat.reduceSub, Nat.reduceLeDiff, Nat.reduceMul, Nat.reduceLT, Nat.reduceEqDiff, Int.reduceLT, Int.reduceLE, Int.reduceAdd, Int.reduceSub, Int.reduceMul, Int.reduceToNat, reduceIte, reduceCtorEq, Nat.reduceBEq, v67_12, v67_7, v67_8, v67_10]
  refine run_drw (by kernel_rfl) ?_
  refine drun_drive 30 (p := (_, _)) ?_
  simp only [go_sem, Nat.reduceAdd, Nat.reduceSub, Nat.reduceLeDiff, Nat.reduceMul, Nat.reduceLT, Nat.reduceEqDiff, Int.reduceLT, Int.reduceLE, Int.reduceAdd, Int.reduceSub, Int.reduceMul, Int.reduceToNat, reduceIte, reduceCtorEq, Nat.reduceBEq, v67_9]
  refine drun_call' ?_
  simp only [go_sem, Nat.reduceAdd, Nat.reduceSub, Nat.reduceLeDiff, Nat.reduceMul, Nat.reduceLT, Nat.reduceEqDiff, Int.reduceLT, Int.reduceLE, Int.reduceAdd, Int.reduceSub, Int.reduceMul, Int.reduceToNat, reduceIte, reduceCtorEq, Nat.reduceBEq, calV]
  refine into' _ _ _ _ ha3 hb2 hz14 hc22 _ rfl _ rfl ?_
  intro s23 c23 hs23 hc23 e23
  refine drun_drive 20 (p := (_, _)) ?_
  simp only [go_sem, Nat.reduceAdd, Nat.reduceSub, Nat.reduceLeDiff, Nat.reduceMul, Nat.reduceLT, Nat.reduceEqDiff, Int.reduceLT, Int.reduceLE, Int.reduceAdd, Int.reduceSub, Int.reduceMul, Int.reduceToNat, reduceIte, reduceCtorEq, Nat.reduceBEq]
  refine drun_end ?_
  refine run_drive 40 ?_
  simp only [go_sem, Nat.reduceAdd, Nat.reduceSub, Nat.reduceLeDiff, Nat.reduceMul, Nat.reduceLT, Nat.reduceEqDiff, Int.reduceLT, Int.reduceLE, Int.reduceAdd, Int.reduceSub, Int.reduceMul, Int.reduceToNat, reduceIte, reduceCtorEq, Nat.reduceBEq, v67_11]
  refine run_loop ?_
  refine run_drive 40 ?_
  simp only [go_sem, Nat.reduceAdd, Nat.reduceSub, Nat.reduceLeDiff, Nat.reduceMul, Nat.reduceLT, Nat.reduceEqDiff, Int.reduceLT, Int.reduceLE, Int.reduceAdd, Int.reduceSub, Int.reduceMul, Int.reduceToNat, reduceIte, reduceCtorEq, Nat.reduceBEq, v67_12, v67_7, v67_14]
  refine run_call' rfl ?_
  simp only [go_sem, Nat.reduceAdd, Nat.reduceSub, Nat.reduceLeDiff, Nat.reduceMul, Nat.reduceLT, Nat.reduceEqDiff, Int.reduceLT, Int.reduceLE, Int.reduceAdd, Int.reduceSub, Int.reduceMul, Int.reduceToNat, reduceIte, reduceCtorEq, Nat.reduceBEq, calV]
  refine add64_c 0 c23 0 (by decide) (by decide) hc23 _ rfl _ rfl ?_
  intro s24 k24 hs24 hk24 e24
  refine run_drive 40 ?_
  simp only [go_sem, Nat.reduceAdd, Nat.reduceSub, Nat.reduceLeDiff, Nat.reduceMul, Nat.reduceLT, Nat.reduceEqDiff, Int.reduceLT, Int.reduceLE, Int.reduceAdd, Int.reduceSub, Int.reduceMul, Int.reduceToNat, reduceIte, reduceCtorEq, Nat.reduceBEq, v67_15, v67_16, v67_17, hG, tbl]
  refine run_call' rfl ?_
  simp only [go_sem, Nat.reduceAdd, Nat.reduceSub, Nat.reduceLeDiff, Nat.reduceMul, Nat.reduceLT, Nat.reduceEqDiff, Int.reduceLT, Int.reduceLE, Int.reduceAdd, Int.reduceSub, Int.reduceMul, Int.reduceToNat, reduceIte, reduceCtorEq, Nat.reduceBEq, calV]
  refine into' (w64 (s20 * 15183074304973897243)) 6346243789798364141 s20 0 (Nat.mod_lt _ (by decide)) (by decide) hs20 (by decide) _ rfl _ rfl ?_
  intro z20 d20 hz20 hd20 f20
  refine run_drive 40 ?_
  simp only [go_sem, Nat.reduceAdd, Nat.reduceSub, Nat.reduceLeDiff, Nat.reduceMul, Nat.reduceLT, Nat.reduceEqDiff, Int.reduceLT, Int.reduceLE, Int.reduceAdd, Int.reduceSub, Int.reduceMul, Int.reduceToNat, reduceIte, reduceCtorEq, Nat.reduceBEq, v67_18, v67_24]
  refine run_loop ?_
  refine run_drive 40 ?_
  simp only [go_sem, Nat.reduceAdd, Nat.reduceSub, Nat.reduceLeDiff, Nat.reduceMul, Nat.reduceLT, Nat.reduceEqDiff, Int.reduceLT, Int.reduceLE, Int.reduceAdd, Int.reduceSub, Int.reduceMul, Int.reduceToNat, reduceIte, reduceCtorEq, Nat.reduceBEq, v67_23, v67_19, v67_21]
  refine run_drw (by kernel_rfl) ?_
  refine drun_drive 30 (p := (_, _)) ?_
  simp only [go_sem, Nat.reduceAdd, Nat.reduceSub, Nat.reduceLeDiff, Nat.reduceMul, Nat.reduceLT, Nat.reduceEqDiff, Int.reduceLT, Int.reduceLE, Int.reduceAdd, Int.reduceSub, Int.reduceMul, Int.reduceToNat, reduceIte, reduceCtorEq, Nat.reduceBEq, v67_20, hG, tbl]
  refine drun_call' ?_
  simp only [go_sem, Nat.reduceAdd, Nat.reduceSub, Nat.reduceLeDiff, Nat.reduceMul, Nat.reduceLT, Nat.reduceEqDiff, Int.reduceLT, Int.reduceLE, Int.reduceAdd, Int.reduceSub, Int.reduceMul, Int.reduceToNat, reduceIte, reduceCtorEq, Nat.reduceBEq, calV]
  refine into' (w64 (s20 * 15183074304973897243)) 1503914060200516822 s21 d20 (Nat.mod_lt _ (by decide)) (by decide) hs21 hd20 _ rfl _ rfl ?_
  intro z21 d21 hz21 hd21 f21
  refine drun_drive 20 (p := (_, _)) ?_
  simp only [go_sem, Nat.reduceAdd, Nat.reduceSub, Nat.reduceLeDiff, Nat.reduceMul, Nat.reduceLT, Nat.reduceEqDiff, Int.reduceLT, Int.reduceLE, Int.reduceAdd, Int.reduceSub, Int.reduceMul, Int.reduceToNat, reduceIte, reduceCtorEq, Nat.reduceBEq]
  refine drun_end ?_
  refine run_drive 40 ?_
  simp only [go_sem, Nat.reduceAdd, Nat.reduceSub, Nat.reduceLeDiff, Nat.reduceMul, Nat.reduceLT, Nat.reduceEqDiff, Int.reduceLT, Int.reduceLE, Int.reduceAdd, Int.reduceSub, Int.reduceMul, Int.reduceToNat, reduceIte, reduceCtorEq, Nat.reduceBEq, v67_22]
  refine run_loop ?_
  refine run_drive 40 ?_
  simp only [go_sem, Nat.reduceAdd, Nat.reduceSub, Nat.reduceLeDiff, Nat.reduceMul, Nat.reduceLT, Nat.reduceEqDiff, Int.reduceLT, Int.reduceLE, Int.reduceAdd, Int.reduceSub, Int.reduceMul, Int.reduceToNat, reduceIte, reduceCtorEq, Nat.reduceBEq, v67_23, v67_19, v67_21]
  refine run_drw (by kernel_rfl) ?_
  refine drun_drive 30 (p := (_, _)) ?_
  simp only [go_sem, Nat.reduceAdd, Nat.reduceSub, Nat.reduceLeDiff, Nat.reduceMul, Nat.reduceLT, Nat.reduceEqDiff, Int.reduceLT, Int.reduceLE, Int.reduceAdd, Int.reduceSub, Int.reduceMul, Int.reduceToNat, reduceIte, reduceCtorEq, Nat.reduceBEq, v67_20, hG, tbl]
  refine drun_call' ?_
  simp only [go_sem, Nat.reduceAdd, Nat.reduceSub, Nat.reduceLeDiff, Nat.reduceMul, Nat.reduceLT, Nat.reduceEqDiff, Int.reduceLT, Int.reduceLE, Int.reduceAdd, Int.reduceSub, Int.reduceMul, Int.reduceToNat, reduceIte, reduceCtorEq, Nat.reduceBEq, calV]
  refine into' (w64 (s20 * 15183074304973897243)) 0 s22 d21 (Nat.mod_lt _ (by decide)) (by decide) hs22 hd21 _ rfl _ rfl ?_
  intro z22 d22 hz22 hd22 f22
  refine drun_drive 20 (p := (_, _)) ?_
  simp only [go_sem, Nat.reduceAdd, Nat.reduceSub, Nat.reduceLeDiff, Nat.reduceMul, Nat.reduceLT, Nat.reduceEqDiff, Int.reduceLT, Int.reduceLE, Int.reduceAdd, Int.reduceSub, Int.reduceMul, Int.reduceToNat, reduceIte, reduceCtorEq, Nat.reduceBEq]
  refine drun_end ?_
  refine run_drive 40 ?_
  simp only [go_sem, Nat.reduceAdd, Nat.reduceSub, Nat.reduceLeDiff, Nat.reduceMul, Nat.reduceLT, Nat.reduceEqDiff, Int.reduceLT, Int.reduceLE, Int.reduceAdd, Int.reduceSub, Int.reduceMul, Int.reduceToNat, reduceIte, reduceCtorEq, Nat.reduceBEq, v67_22]
  refine run_loop ?_
  refine run_drive 40 ?_
  simp only [go_sem, Nat.reduceAdd, Nat.reduceSub, Nat.reduceLeDiff, Nat.reduceMul, Nat.reduceLT, Nat.reduceEqDiff, Int.reduceLT, Int.reduceLE, Int.reduceAdd, Int.reduceSub, Int.reduceMul, Int.reduceToNat, reduceIte, reduceCtorEq, Nat.reduceBEq, v67_23, v67_19, v67_21]
  refine run_drw (by kernel_rfl) ?_
  refine drun_drive 30 (p := (_, _)) ?_
  simp only [go_sem, Nat.reduceAdd, Nat.reduceSub, Nat.reduceLeDiff, Nat.reduceMul, Nat.reduceLT, Nat.reduceEqDiff, Int.reduceLT, Int.reduceLE, Int.reduceAdd, Int.reduceSub, Int.reduceMul, Int.reduceToNat, reduceIte, reduceCtorEq, Nat.reduceBEq, v67_20, hG, tbl]
  refine drun_call' ?_
  simp only [go_sem, Nat.reduceAdd, Nat.reduceSub, Nat.reduceLeDiff, Nat.reduceMul, Nat.reduceLT, Nat.reduceEqDiff, Int.reduceLT, Int.reduceLE, Int.reduceAdd, Int.reduceSub, Int.reduceMul, Int.reduceToNat, reduceIte, reduceCtorEq, Nat.reduceBEq, calV]
  refine into' (w64 (s20 * 15183074304973897243)) 1152921504606846976 s23 d22 (Nat.mod_lt _ (by decide)) (by decide) hs23 hd22 _ rfl _ rfl ?_
  intro z23 d23 hz23 hd23 f23
  refine drun_drive 20 (p := (_, _)) ?_
  simp only [go_sem, Nat.reduceAdd, Nat.reduceSub, Nat.reduceLeDiff, Nat.reduceMul, Nat.reduceLT, Nat.reduceEqDiff, Int.reduceLT, Int.reduceLE, Int.reduceAdd, Int.reduceSub, Int.reduceMul, Int.reduceToNat, reduceIte, reduceCtorEq, Nat.reduceBEq]
  refine drun_end ?_
  refine run_drive 40 ?_
  simp only [go_sem, Nat.reduceAdd, Nat.reduceSub, Nat.reduceLeDiff, Nat.reduceMul, Nat.reduceLT, Nat.reduceEqDiff, Int.reduceLT, Int.reduceLE, Int.reduceAdd, Int.reduceSub, Int.reduceMul, Int.reduceToNat, reduceIte, reduceCtorEq, Nat.reduceBEq, v67_22]
  refine run_loop ?_
  refine run_drive 40 ?_
  simp only [go_sem, Nat.reduceAdd, Nat.reduceSub, Nat.reduceLeDiff, Nat.reduceMul, Nat.reduceLT, Nat.reduceEqDiff, Int.reduceLT, Int.reduceLE, Int.reduceAdd, Int.reduceSub, Int.reduceMul, Int.reduceToNat, reduceIte, reduceCtorEq, Nat.reduceBEq, v67_23, v67_19, v67_25]
  refine run_call' rfl ?_
  simp only [go_sem, Nat.reduceAdd, Nat.reduceSub, Nat.reduceLeDiff, Nat.reduceMul, Nat.reduceLT, Nat.reduceEqDiff, Int.reduceLT, Int.reduceLE, Int.reduceAdd, Int.reduceSub, Int.reduceMul, Int.reduceToNat, reduceIte, reduceCtorEq, Nat.reduceBEq, calV]
  refine add64_c s24 d23 0 (by decide) hs24 hd23 _ rfl _ rfl ?_
  intro z24 k25 hz24 hk25 f24
  refine run_drive 40 ?_
  simp only [go_sem, Nat.reduceAdd, Nat.reduceSub, Nat.reduceLeDiff, Nat.reduceMul, Nat.reduceLT, Nat.reduceEqDiff, Int.reduceLT, Int.reduceLE, Int.reduceAdd, Int.reduceSub, Int.reduceMul, Int.reduceToNat, reduceIte, reduceCtorEq, Nat.reduceBEq, v67_26, v67_28]
  obtain ⟨w2, T2, m2, M2⟩ := round_law a0 a1 a2 a3 b2 z11 z12 z13 z14 s20 s21 s22 s23 s24 c20 c21 c22 c23 k24 z20 z21 z22 z23 z24 d20 d21 d22 d23 k25 hb2 hA T1 hs20 hz20 hz21 hz22 hz23 hz24 e20 e21 e22 e23 e24 f20 f21 f22 f23 f24
  rw [w2]
  clear e20 e21 e22 e23 e24 f20 f21 f22 f23 f24 w2
  refine run_loop ?_
  refine run_drive 40 ?_
  simp only [go_sem, Nat.reduceAdd, Nat.reduceSub, Nat.reduceLeDiff, Nat.reduceMul, Nat.reduceLT, Nat.reduceEqDiff, Int.reduceLT, Int.reduceLE, Int.reduceAdd, Int.reduceSub, Int.reduceMul, Int.reduceToNat, reduceIte, reduceCtorEq, Nat.reduceBEq, v67_29, v67_3, v67_27, v67_4, v67_5, v67_6, v67_13]
  refine run_loop ?_
  refine run_drive 40 ?_
  simp only [go_sem, Nat.reduceAdd, Nat.reduceSub, Nat.reduceLeDiff, Nat.reduceMul, Nat.reduceLT, Nat.reduceEqDiff, Int.reduceLT, Int.reduceLE, Int.reduceAdd, Int.reduceSub, Int.reduceMul, Int.reduceToNat, reduceIte, reduceCtorEq, Nat.reduceBEq, v67_12, v67_7, v67_8, v67_10]
  refine run_drw (by kernel_rfl) ?_
  refine drun_drive 30 (p := (_, _)) ?_
  simp only [go_sem, Nat.reduceAdd, Nat.reduceSub, Nat.reduceLeDiff, Nat.reduceMul, Nat.reduceLT, Nat.reduceEqDiff, Int.reduceLT, Int.reduceLE, Int.reduceAdd, Int.reduceSub, Int.reduceMul, Int.reduceToNat, reduceIte, reduceCtorEq, Nat.reduceBEq, v67_9]
  refine drun_call' ?_
  simp only [go_sem, Nat.reduceAdd, Nat.reduceSub, Nat.reduceLeDiff, Nat.reduceMul, Nat.reduceLT, Nat.reduceEqDiff, Int.reduceLT, Int.reduceLE, Int.reduceAdd, Int.reduceSub, Int.reduceMul, Int.reduceToNat, reduceIte, reduceCtorEq, Nat.reduceBEq, calV]
  refine into' _ _ _ _ ha0 hb3 hz21 (by decide : (0 : Nat) < 18446744073709551616) _ rfl _ rfl ?_
  intro s30 c30 hs30 hc30 e30
  refine drun_drive 20 (p := (_, _)) ?_
  simp only [go_sem, Nat.reduceAdd, Nat.reduceSub, Nat.reduceLeDiff, Nat.reduceMul, Nat.reduceLT, Nat.reduceEqDiff, Int.reduceLT, Int.reduceLE, Int.reduceAdd, Int.reduceSub, Int.reduceMul, Int.reduceToNat, reduceIte, reduceCtorEq, Nat.reduceBEq]
  refine drun_end ?_
  refine run_drive 40 ?_
  simp only [go_sem, Nat.reduceAdd, Nat.reduceSub, Nat.reduceLeDiff, Nat.reduceMul, Nat.reduceLT, Nat.reduceEqDiff, Int.reduceLT, Int.reduceLE, Int.reduceAdd, Int.reduceSub, Int.reduceMul, Int.reduceToNat, reduceIte, reduceCtorEq, Nat.reduceBEq, v67_11]
  refine run_loop ?_
  refine run_drive 40 ?_
  simp only [go_sem, Nat.reduceAdd, Nat.reduceSub, Nat.reduceLeDiff, Nat.reduceMul, Nat.reduceLT, Nat.reduceEqDiff, Int.reduceLT, Int.reduceLE, Int.reduceAdd, Int.reduceSub, Int.reduceMul, Int.reduceToNat, reduceIte, reduceCtorEq, Nat.reduceBEq, v67_12, v67_7, v67_8, v67_10]
  refine run_drw (by kernel_rfl) ?_
  refine drun_drive 30 (p := (_, _)) ?_
  simp only [go_sem, Nat.reduceAdd, Nat.reduceSub, Nat.reduceLeDiff, Nat.reduceMul, Nat.reduceLT, Nat.reduceEqDiff, Int.reduceLT, Int.reduceLE, Int.reduceAdd, Int.reduceSub, Int.reduceMul, Int.reduceToNat, reduceIte, reduceCtorEq, Nat.reduceBEq, v67_9]
  refine drun_call' ?_
  simp only [go_sem, Nat.reduceAdd, Nat.reduceSub, Nat.reduceLeDiff, Nat.reduceMul, Nat.reduceLT, Nat.reduceEqDiff, Int.reduceLT, Int.reduceLE, Int.reduceAdd, Int.reduceSub, Int.reduceMul, Int.reduceToNat, reduceIte, reduceCtorEq, Nat.reduceBEq, calV]
  refine into' _ _ _ _ ha1 hb3 hz22 hc30 _ rfl _ rfl ?_
  intro s31 c31 hs31 hc31 e31
  refine drun_drive 20 (p := (_, _)) ?_
  simp only [go_sem, Nat.reduceAdd, Nat.reduceSub, Nat.reduceLeDiff, Nat.reduceMul, Nat.reduceLT, Nat.reduceEqDiff, Int.reduceLT, Int.reduceLE, Int.reduceAdd, Int.reduceSub, Int.reduceMul, Int.reduceToNat, reduceIte, reduceCtorEq, Nat.reduceBEq]
  refine drun_end ?_
  refine run_drive 40 ?_
  simp only [go_sem, Nat.reduceAdd, Nat.reduceSub, Nat.reduceLeDiff, Nat.reduceMul, Nat.reduceLT, Nat.reduceEqDiff, Int.reduceLT, Int.reduceLE, Int.reduceAdd, Int.reduceSub, Int.reduceMul, Int.reduceToNat, reduceIte, reduceCtorEq, Nat.reduceBEq, v67_11]
  refine run_loop ?_
  refine run_drive 40 ?_
  simp only [go_sem, Nat.reduceAdd, Nat.reduceSub, Nat.reduceLeDiff, Nat.reduceMul, Nat.reduceLT, Nat.reduceEqDiff, Int.reduceLT, Int.reduceLE, Int.reduceAdd, Int.reduceSub, Int.reduceMul, Int.reduceToNat, reduceIte, reduceCtorEq, Nat.reduceBEq, v67_12, v67_7, v67_8, v67_10]
  refine run_drw (by kernel_rfl) ?_
  refine drun_drive 30 (p := (_, _)) ?_
  simp only [go_sem, Nat.reduceAdd, Nat.reduceSub, Nat.reduceLeDiff, Nat.reduceMul, Nat.reduceLT, Nat.reduceEqDiff, Int.reduceLT, Int.reduceLE, Int.reduceAdd, Int.reduceSub, Int.reduceMul, Int.reduceToNat, reduceIte, reduceCtorEq, Nat.reduceBEq, v67_9]
  refine drun_call' ?_
  simp only [go_sem, Nat.reduceAdd, Nat.reduceSub, Nat.reduceLeDiff, Nat.reduceMul, Nat.reduceLT, Nat.reduceEqDiff, Int.reduceLT, Int.reduceLE, Int.reduceAdd, Int.reduceSub, Int.reduceMul, Int.reduceToNat, reduceIte, reduceCtorEq, Nat.reduceBEq, calV]
  refine into' _ _ _ _ ha2 hb3 hz23 hc31 _ rfl _ rfl ?_
  intro s32 c32 hs32 hc32 e32
  refine drun_drive 20 (p := (_, _)) ?_
  simp only [go_sem, Nat.reduceAdd, Nat.reduceSub, Nat.reduceLeDiff, Nat.reduceMul, Nat.reduceLT, Nat.reduceEqDiff, Int.reduceLT, Int.reduceLE, Int.reduceAdd, Int.reduceSub, Int.reduceMul, Int.reduceToNat, reduceIte, reduceCtorEq, Nat.reduceBEq]
  refine drun_end ?_
  refine run_drive 40 ?_
  simp only [go_sem, Nat.reduceAdd, Nat.reduceSub, Nat.reduceLeDiff, Nat.reduceMul, Nat.reduceLT, Nat.reduceEqDiff, Int.reduceLT, Int.reduceLE, Int.reduceAdd, Int.reduceSub, Int.reduceMul, Int.reduceToNat, reduceIte, reduceCtorEq, Nat.reduceBEq, v67_11]
  refine run_loop ?_
  refine run_drive 40 ?_
  simp only [go_sem, Nat.reduceAdd, Nat.reduceSub, Nat.reduceLeDiff, Nat.reduceMul, Nat.reduceLT, Nat.reduceEqDiff, Int.reduceLT, Int.reduceLE, Int.reduceAdd, Int.reduceSub, Int.reduceMul, Int.reduceToNat, reduceIte, reduceCtorEq, Nat.reduceBEq, v67_12, v67_7, v67_8, v67_10]
  refine run_drw (by kernel_rfl) ?_
  refine drun_drive 30 (p := (_, _)) ?_
  simp only [go_sem, Nat.reduceAdd, Nat.reduceSub, Nat.reduceLeDiff, Nat.reduceMul, Nat.reduceLT, Nat.reduceEqDiff, Int.reduceLT, Int.reduceLE, Int.reduceAdd, Int.reduceSub, Int.reduceMul, Int.reduceToNat, reduceIte, reduceCtorEq, Nat.reduceBEq, v67_9]
  refine drun_call' ?_
  simp only [go_sem, Nat.reduceAdd, Nat.reduceSub, Nat.reduceLeDiff, Nat.reduceMul, Nat.reduceLT, Nat.reduceEqDiff, Int.reduceLT, Int.reduceLE, Int.reduceAdd, Int.reduceSub, Int.reduceMul, Int.reduceToNat, reduceIte, reduceCtorEq, Nat.reduceBEq, calV]
  refine into' _ _ _ _ ha3 hb3 hz24 hc32 _ rfl _ rfl ?_
  intro s33 c33 hs33 hc33 e33
  refine drun_drive 20 (p := (_, _)) ?_
  simp only [go_sem, Nat.reduceAdd, Nat.reduceSub, Nat.reduceLeDiff, Nat.reduceMul, Nat.reduceLT, Nat.reduceEqDiff, Int.reduceLT, Int.reduceLE, Int.reduceAdd, Int.reduceSub, Int.reduceMul, Int.reduceToNat, reduceIte, reduceCtorEq, Nat.reduceBEq]
  refine drun_end ?_
  refine run_drive 40 ?_
  simp only [go_sem, Nat.reduceAdd, Nat.reduceSub, Nat.reduceLeDiff, Nat.reduceMul, Nat.reduceLT, Nat.reduceEqDiff, Int.reduceLT, Int.reduceLE, Int.reduceAdd, Int.reduceSub, Int.reduceMul, Int.reduceToNat, reduceIte, reduceCtorEq, Nat.reduceBEq, v67_11]
  refine run_loop ?_
  refine run_drive 40 ?_
  simp only [go_sem, Nat.reduceAdd, Nat.reduceSub, Nat.reduceLeDiff, Nat.reduceMul, Nat.reduceLT, Nat.reduceEqDiff, Int.reduceLT, Int.reduceLE, Int.reduceAdd, Int.reduceSub, Int.reduceMul, Int.reduceToNat, reduceIte, reduceCtorEq, Nat.reduceBEq, v67_12, v67_7, v67_14]
  refine run_call' rfl ?_
  simp only [go_sem, Nat.reduceAdd, Nat.reduceSub, Nat.reduceLeDiff, Nat.reduceMul, Nat.reduceLT, Nat.reduceEqDiff, Int.reduceLT, Int.reduceLE, Int.reduceAdd, Int.reduceSub, Int.reduceMul, Int.reduceToNat, reduceIte, reduceCtorEq, Nat.reduceBEq, calV]
  refine add64_c 0 c33 0 (by decide) (by decide) hc33 _ rfl _ rfl ?_
  intro s34 k34 hs34 hk34 e34
  refine run_drive 40 ?_
  simp only [go_sem, Nat.reduceAdd, Nat.reduceSub, Nat.reduceLeDiff, Nat.reduceMul, Nat.reduceLT, Nat.reduceEqDiff, Int.reduceLT, Int.reduceLE, Int.reduceAdd, Int.reduceSub, Int.reduceMul, Int.reduceToNat, reduceIte, reduceCtorEq, Nat.reduceBEq, v67_15, v67_16, v67_17, hG, tbl]
  refine run_call' rfl ?_
  simp only [go_sem, Nat.reduceAdd, Nat.reduceSub, Nat.reduceLeDiff, Nat.reduceMul, Nat.reduceLT, Nat.reduceEqDiff, Int.reduceLT, Int.reduceLE, Int.reduceAdd, Int.reduceSub, Int.reduceMul, Int.reduceToNat, reduceIte, reduceCtorEq, Nat.reduceBEq, calV]
  refine into' (w64 (s30 * 15183074304973897243)) 6346243789798364141 s30 0 (Nat.mod_lt _ (by decide)) (by decide) hs30 (by decide) _ rfl _ rfl ?_
  intro z30 d30 hz30 hd30 f30
  refine run_drive 40 ?_
  simp only [go_sem, Nat.reduceAdd, Nat.reduceSub, Nat.reduceLeDiff, Nat.reduceMul, Nat.reduceLT, Nat.reduceEqDiff, Int.reduceLT, Int.reduceLE, Int.reduceAdd, Int.reduceSub, Int.reduceMul, Int.reduceToNat, reduceIte, reduceCtorEq, Nat.reduceBEq, v67_18, v67_24]
  refine run_loop ?_
  refine run_drive 40 ?_
  simp only [go_sem, Nat.reduceAdd, Nat.reduceSub, Nat.reduceLeDiff, Nat.reduceMul, Nat.reduceLT, Nat.reduceEqDiff, Int.reduceLT, Int.reduceLE, Int.reduceAdd, Int.reduceSub, Int.reduceMul, Int.reduceToNat, reduceIte, reduceCtorEq, Nat.reduceBEq, v67_23, v67_19, v67_21]
  refine run_drw (by kernel_rfl) ?_
  refine drun_drive 30 (p := (_, _)) ?_
  simp only [go_sem, Nat.reduceAdd, Nat.reduceSub, Nat.reduceLeDiff, Nat.reduceMul, Nat.reduceLT, Nat.reduceEqDiff, Int.reduceLT, Int.reduceLE, Int.reduceAdd, Int.reduceSub, Int.reduceMul, Int.reduceToNat, reduceIte, reduceCtorEq, Nat.reduceBEq, v67_20, hG, tbl]
  refine drun_call' ?_
  simp only [go_sem, Nat.reduceAdd, Nat.reduceSub, Nat.reduceLeDiff, Nat.reduceMul, Nat.reduceLT, Nat.reduceEqDiff, Int.reduceLT, Int.reduceLE, Int.reduceAdd, Int.reduceSub, Int.reduceMul, Int.reduceToNat, reduceIte, reduceCtorEq, Nat.reduceBEq, calV]
  refine into' (w64 (s30 * 15183074304973897243)) 1503914060200516822 s31 d30 (Nat.mod_lt _ (by decide)) (by decide) hs31 hd30 _ rfl _ rfl ?_
  intro z31 d31 hz31 hd31 f31
  refine drun_drive 20 (p := (_, _)) ?_
  simp only [go_sem, Nat.reduceAdd, Nat.reduceSub, Nat.reduceLeDiff, Nat.reduceMul, Nat.reduceLT, Nat.reduceEqDiff, Int.reduceLT, Int.reduceLE, Int.reduceAdd, Int.reduceSub, Int.reduceMul, Int.reduceToNat, reduceIte, reduceCtorEq, Nat.reduceBEq]
  refine drun_end ?_
  refine run_drive 40 ?_
  simp only [go_sem, Nat.reduceAdd, Nat.reduceSub, Nat.reduceLeDiff, Nat.reduceMul, Nat.reduceLT, Nat.reduceEqDiff, Int.reduceLT, Int.reduceLE, Int.reduceAdd, Int.reduceSub, Int.reduceMul, Int.reduceToNat, reduceIte, reduceCtorEq, Nat.reduceBEq, v67_22]
  refine run_loop ?_
  refine run_drive 40 ?_
  simp only [go_sem, Nat.reduceAdd, Nat.reduceSub, Nat.reduceLeDiff, Nat.reduceMul, Nat.reduceLT, Nat.reduceEqDiff, Int.reduceLT, Int.reduceLE, Int.reduceAdd, Int.reduceSub, Int.reduceMul, Int.reduceToNat, reduceIte, reduceCtorEq, Nat.reduceBEq, v67_23, v67_19, v67_21]
  refine run_drw (by kernel_rfl) ?_
  refine drun_drive 30 (p := (_, _)) ?_
  simp only [go_sem, Nat.reduceAdd, Nat.reduceSub, Nat.reduceLeDiff, Nat.reduceMul, Nat.reduceLT, Nat.reduceEqDiff, Int.reduceLT, Int.reduceLE, Int.reduceAdd, Int.reduceSub, Int.reduceMul, Int.reduceToNat, reduceIte, reduceCtorEq, Nat.reduceBEq, v67_20, hG, tbl]
  refine drun_call' ?_
  simp only [go_sem, Nat.reduceAdd, Nat.reduceSub, Nat.reduceLeDiff, Nat.reduceMul, Nat.reduceLT, Nat.reduceEqDiff, Int.reduceLT, Int.reduceLE, Int.reduceAdd, Int.reduceSub, Int.reduceMul, Int.reduceToNat, reduceIte, reduceCtorEq, Nat.reduceBEq, calV]
  refine into' (w64 (s30 * 15183074304973897243)) 0 s32 d31 (Nat.mod_lt _ (by decide)) (by decide) hs32 hd31 _ rfl _ rfl ?_
  intro z32 d32 hz32 hd32 f32
  refine drun_drive 20 (p := (_, _)) ?_
  simp only [go_sem, Nat.reduceAdd, Nat.reduceSub, Nat.reduceLeDiff, Nat.reduceMul, Nat.reduceLT, Nat.reduceEqDiff, Int.reduceLT, Int.reduceLE, Int.reduceAdd, Int.reduceSub, Int.reduceMul, Int.reduceToNat, reduceIte, reduceCtorEq, Nat.reduceBEq]
  refine drun_end ?_
  refine run_drive 40 ?_
  simp only [go_sem, Nat.reduceAdd, Nat.reduceSub, Nat.reduceLeDiff, Nat.reduceMul, Nat.reduceLT, Nat.reduceEqDiff, Int.reduceLT, Int.reduceLE, Int.reduceAdd, Int.reduceSub, Int.reduceMul, Int.reduceToNat, reduceIte, reduceCtorEq, Nat.reduceBEq, v67_22]
  refine run_loop ?_
  refine run_drive 40 ?_
  simp only [go_sem, Nat.reduceAdd, Nat.reduceSub, Nat.reduceLeDiff, Nat.reduceMul, Nat.reduceLT, Nat.reduceEqDiff, Int.reduceLT, Int.reduceLE, Int.reduceAdd, Int.reduceSub, Int.reduceMul, Int.reduceToNat, reduceIte, reduceCtorEq, Nat.reduceBEq, v67_23, v67_19, v67_21]
  refine run_drw (by kernel_rfl) ?_
  refine drun_drive 30 (p := (_, _)) ?_
  simp only [go_sem, Nat.reduceAdd, Nat.reduceSub, Nat.reduceLeDiff, Nat.reduceMul, Nat.reduceLT, Nat.reduceEqDiff, Int.reduceLT, Int.reduceLE, Int.reduceAdd, Int.reduceSub, Int.reduceMul, Int.reduceToNat, reduceIte, reduceCtorEq, Nat.reduceBEq, v67_20, hG, tbl]
  refine drun_call' ?_
  simp only [go_sem, Nat.reduceAdd, Nat.reduceSub, Nat.reduceLeDiff, Nat.reduceMul, Nat.reduceLT, Nat.reduceEqDiff, Int.reduceLT, Int.reduceLE, Int.reduceAdd, Int.reduceSub, Int.reduceMul, Int.reduceToNat, reduceIte, reduceCtorEq, Nat.reduceBEq, calV]
  refine into' (w64 (s30 * 15183074304973897243)) 1152921504606846976 s33 d32 (Nat.mod_lt _ (by decide)) (by decide) hs33 hd32 _ rfl _ rfl ?_
  intro z33 d33 hz33 hd33 f33
  refine drun_drive 20 (p := (_, _)) ?_
  simp only [go_sem, Nat.reduceAdd, Nat.reduceSub, Nat.reduceLeDiff, Nat.reduceMul, Nat.reduceLT, Nat.reduceEqDiff, Int.reduceLT, Int.reduceLE, Int.reduceAdd, Int.reduceSub, Int.reduceMul, Int.reduceToNat, reduceIte, reduceCtorEq, Nat.reduceBEq]
  refine drun_end ?_
  refine run_drive 40 ?_
  simp only [go_sem, Nat.reduceAdd, Nat.reduceSub, Nat.reduceLeDiff, Nat.reduceMul, Nat.reduceLT, Nat.reduceEqDiff, Int.reduceLT, Int.reduceLE, Int.reduceAdd, Int.reduceSub, Int.reduceMul, Int.reduceToNat, reduceIte, reduceCtorEq, Nat.reduceBEq, v67_22]
  refine run_loop ?_
  refine run_drive 40 ?_
  simp only [go_sem, Nat.reduceAdd, Nat.reduceSub, Nat.reduceLeDiff, Nat.reduceMul, Nat.reduceLT, Nat.reduceEqDiff, Int.reduceLT, Int.reduceLE, Int.reduceAdd, Int.reduceSub, Int.reduceMul, Int.reduceToNat, reduceIte, reduceCtorEq, Nat.reduceBEq, v67_23, v67_19, v67_25]
  refine run_call' rfl ?_
  simp only [go_sem, Nat.reduceAdd, Nat.reduceSub, Nat.reduceLeDiff, Nat.reduceMul, Nat.reduceLT, Nat.reduceEqDiff, Int.reduceLT, Int.reduceLE, Int.reduceAdd, Int.reduceSub, Int.reduceMul, Int.reduceToNat, reduceIte, reduceCtorEq, Nat.reduceBEq, calV]
  refine add64_c s34 d33 0 (by decide) hs34 hd33 _ rfl _ rfl ?_
  intro z34 k35 hz34 hk35 f34
  refine run_drive 40 ?_
  simp only [go_sem, Nat.reduceAdd, Nat.reduceSub, Nat.reduceLeDiff, Nat.reduceMul, Nat.reduceLT, Nat.reduceEqDiff, Int.reduceLT, Int.reduceLE, Int.reduceAdd, Int.reduceSub, Int.reduceMul, Int.reduceToNat, reduceIte, reduceCtorEq, Nat.reduceBEq, v67_26, v67_28]
  obtain ⟨w3, T3, m3, M3⟩ := round_law a0 a1 a2 a3 b3 z21 z22 z23 z24 s30 s31 s32 s33 s34 c30 c31 c32 c33 k34 z30 z31 z32 z33 z34 d30 d31 d32 d33 k35 hb3 hA T2 hs30 hz30 hz31 hz32 hz33 hz34 e30 e31 e32 e33 e34 f30 f31 f32 f33 f34
  rw [w3]
  clear e30 e31 e32 e33 e34 f30 f31 f32 f33 f34 w3
  refine run_loop ?_
  refine run_drive 40 ?_
  simp only [go_sem, Nat.reduceAdd, Nat.reduceSub, Nat.reduceLeDiff, Nat.reduceMul, Nat.reduceLT, Nat.reduceEqDiff, Int.reduceLT, Int.reduceLE, Int.reduceAdd, Int.reduceSub, Int.reduceMul, Int.reduceToNat, reduceIte, reduceCtorEq, Nat.reduceBEq, v67_29, v67_3, v67_31]
  refine run_call' rfl ?_
  simp only [go_sem, Nat.reduceAdd, Nat.reduceSub, Nat.reduceLeDiff, Nat.reduceMul, Nat.reduceLT, Nat.reduceEqDiff, Int.reduceLT, Int.reduceLE, Int.reduceAdd, Int.reduceSub, Int.reduceMul, Int.reduceToNat, reduceIte, reduceCtorEq, Nat.reduceBEq, calV]
  refine lower_c hG z31 z32 z33 z34 hz31 hz32 hz33 hz34 ?_
  intro g0 g1 g2 g3 hg0 hg1 hg2 hg3 eg
  refine run_drive 40 ?_
  simp only [go_sem, Nat.reduceAdd, Nat.reduceSub, Nat.reduceLeDiff, Nat.reduceMul, Nat.reduceLT, Nat.reduceEqDiff, Int.reduceLT, Int.reduceLE, Int.reduceAdd, Int.reduceSub, Int.reduceMul, Int.reduceToNat, reduceIte, reduceCtorEq, Nat.reduceBEq]
  have hR : (g0 + 18446744073709551616 * g1 + 340282366920938463463374607431768211456 * g2 + 6277101735386680763835789423207666416102355444464034512896 * g3) < ell ∧ ((g0 + 18446744073709551616 * g1 + 340282366920938463463374607431768211456 * g2 + 6277101735386680763835789423207666416102355444464034512896 * g3) = (z31 + 18446744073709551616 * z32 + 340282366920938463463374607431768211456 * z33 + 6277101735386680763835789423207666416102355444464034512896 * z34) ∨ (g0 + 18446744073709551616 * g1 + 340282366920938463463374607431768211456 * g2 + 6277101735386680763835789423207666416102355444464034512896 * g3) + ell = (z31 + 18446744073709551616 * z32 + 340282366920938463463374607431768211456 * z33 + 6277101735386680763835789423207666416102355444464034512896 * z34)) := by
    clear M0 M1 M2 M3
    rw [eg]
    unfold ell
    split <;> omega
  refine run_ret_drop Tryd.func67 res67 [] (lw (g0 + 18446744073709551616 * g1 + 340282366920938463463374607431768211456 * g2 + 6277101735386680763835789423207666416102355444464034512896 * g3)) [] rfl (by simp) trivial (by simp [uniq]) ?_ (hQ _ hR.1 ?_)
  · rw [lw_of hg0 hg1 hg2 hg3]
    simp only [go_sem, Nat.reduceAdd, Nat.reduceSub, Nat.reduceLeDiff, Nat.reduceMul, Nat.reduceLT, Nat.reduceEqDiff, Int.reduceLT, Int.reduceLE, Int.reduceAdd, Int.reduceSub, Int.reduceMul, Int.reduceToNat, reduceIte, reduceCtorEq, Nat.reduceBEq, rr67, ren, rens]
  · exact mont_law M0 M1 M2 M3 hR.2
end
section
attribute [local go_sem] Option.isSome_some Option.isSome_none Kind.m Kind.w Kind.g look_ro look_rw look_grow lenO drive stepV exo expo evs fillV isNil nilKind eqV eqL optA optM sliceAtV ev kn V.known V.one ldc stc splice cellsOf asK asN asB asS asG asT appV srcV lenV setd wantV exitV rvs rv one List.length_cons List.length_nil List.cons_append List.nil_append List.append_nil List.replicate List.getD_cons_zero List.getD_cons_succ List.set_cons_zero List.set_cons_succ List.getElem?_cons_zero List.getElem?_cons_succ List.getElem?_nil List.take_succ_cons List.take_zero List.take_nil List.drop_succ_cons List.drop_zero List.drop_nil List.all_cons List.all_nil List.any_cons List.any_nil Bool.and_true Bool.true_and Bool.and_self Option.map_some Option.map_none Option.bind_some Option.some.injEq Nat.add_zero Nat.zero_add Int.toNat_zero Int.toNat_one Int.zero_add Int.add_zero if_true if_false ite_true ite_false and_true true_and and_self ne_eq not_false_eq_true not_true_eq_false decide_true decide_false Bool.false_eq_true Bool.not_true Bool.not_false beq_self_eq_true BEq.rfl Bool.not_eq_true Nat.le_refl Int.le_refl Nat.zero_le List.foldl List.map_cons List.map_nil Prod.mk.injEq Int.cast_ofNat_Int Int.zero_le_ofNat b_add_cc b_add_cl b_add_lc b_mul_cc b_mul_cl b_mul_lc b_sub_cc b_sub_cl b_sub_lc b_and_cc b_and_cl b_and_lc b_or_cc b_or_cl b_or_lc b_xor_cc b_xor_cl b_xor_lc b_andNot_cc b_andNot_cl b_andNot_lc b_shr_cc b_shr_cl b_shr_lc b_shl_cc b_shl_cl b_shl_lc b_lss b_leq b_gtr b_geq b_add_i b_sub_i b_mul_i beq_cc beq_cl beq_lc beq_ll b_quo_i b_rem_i neg_u64 wrap_i64 driveD stepD idsAt idOf maskH_nil restore_nil restore_mask List.filterMap_nil List.filterMap_cons VOp.looks VOp.makes exA
def winv : Nat := 4458503529701987551646482192314240623644693141688353256590997718326214331684
theorem redc {R N x y : Nat} (hR : R < ell) (h : 115792089237316195423570985008687907853269984665640564039457584007913129639936 * R + ell * x = N + ell * y) : R = N * winv % ell := by
  have h1 : (115792089237316195423570985008687907853269984665640564039457584007913129639936 * R) % ell = N % ell := by
    rw [← Nat.add_mul_mod_self_left _ ell x, h, Nat.add_mul_mod_self_left]
  have h2 : N * winv % ell = R % ell := by
    rw [Nat.mul_mod, ← h1, ← Nat.mul_mod, Nat.mul_right_comm, Nat.mul_mod, show (115792089237316195423570985008687907853269984665640564039457584007913129639936 * winv) % ell = 1 by decide, Nat.one_mul, Nat.mod_mod]
  rw [h2, Nat.mod_eq_of_lt hR]
theorem product' (hG : G 0 = tbl) (A B : Nat) (hA : A < ell) (hB : B < 115792089237316195423570985008687907853269984665640564039457584007913129639936) {h : Heap} {R : V → Heap → Prop} (hQ : R (lw (A * B * winv % ell)) h) : VCall Tryd.prog G 67 [lw A, lw B] h R := by
  refine vcall_plain (Q := fun v => v = lw (A * B * winv % ell)) ?_ (fun g => by simp only [rens, lw_plain]) ?_ ?_
  · have hA' : A < 115792089237316195423570985008687907853269984665640564039457584007913129639936 := by unfold ell at hA; omega
    obtain ⟨a0, a1, a2, a3, ha0, ha1, ha2, ha3, ea, eA⟩ := limbs4 A hA'
    obtain ⟨b0, b1, b2, b3, hb0, hb1, hb2, hb3, eb, eB⟩ := limbs4 B hB
    rw [ea, eb]
    refine product0 hG a0 a1 a2 a3 b0 b1 b2 b3 ha0 ha1 ha2 ha3 hb0 hb1 hb2 hb3 (by rw [← eA]; exact hA) _ ?_
    rintro R hR ⟨x, y, e⟩
    refine ⟨?_, rfl⟩
    rw [← eA, ← eB] at e
    rw [redc hR e]
  · rintro v g rfl; exact lw_plain _ g
  · rintro v rfl; exact hQ
end
end Go.Vs.Tryd
namespace Go.Vs.Tryd
open Go.Proofs
variable {G : Nat → List V}
set_option linter.unusedSimpArgs false
attribute [local go_sem] lenO_nils lenO_sl sliceAtV Int.sub_zero List.length_append List.all_append ge_iff_le gt_iff_lt Int.natCast_nonneg Int.toNat_natCast Nat.mul_one b_and_ll b_shr_ll b_mul_ll b_add_ll b_or_ll b_shl_ll pick_ll pick_lc pick_bb driveS stopV Option.isSome_some Option.isSome_none Kind.m Kind.w Kind.g look_ro look_rw look_grow drive stepV exo expo evs fillV isNil nilKind eqV eqL optA optM sliceAtV ev kn ldc stc splice appV srcV lenV setd wantV exitV rvs rv one List.length_cons List.length_nil List.cons_append List.nil_append List.append_nil List.replicate List.getD_cons_zero List.getD_cons_succ List.set_cons_zero List.set_cons_succ List.getElem?_cons_zero List.getElem?_cons_succ List.getElem?_nil List.take_succ_cons List.take_zero List.take_nil List.drop_succ_cons List.drop_zero List.drop_nil List.all_cons List.all_nil List.any_cons List.any_nil Bool.and_true Bool.true_and Bool.and_self Option.map_some Option.map_none Option.bind_some Option.some.injEq Nat.add_zero Nat.zero_add Int.toNat_zero Int.toNat_one Int.zero_add Int.add_zero if_true if_false ite_true ite_false and_true true_and and_self ne_eq not_false_eq_true not_true_eq_false decide_true decide_false Bool.false_eq_true Bool.not_true Bool.not_false beq_self_eq_true BEq.rfl Bool.not_eq_true Nat.le_refl Int.le_refl Nat.zero_le List.foldl List.map_cons List.map_nil Prod.mk.injEq Int.cast_ofNat_Int Int.zero_le_ofNat b_add_cc b_add_cl b_add_lc b_mul_cc b_mul_cl b_mul_lc b_sub_cc b_sub_cl b_sub_lc b_and_cc b_and_cl b_and_lc b_or_cc b_or_cl b_or_lc b_xor_cc b_xor_cl b_xor_lc b_andNot_cc b_andNot_cl b_andNot_lc b_shr_cc b_shr_cl b_shr_lc b_shl_cc b_shl_cl b_shl_lc b_lss b_leq b_gtr b_geq b_add_i b_sub_i b_mul_i beq_cc beq_cl beq_lc beq_ll b_quo_i b_rem_i neg_u64 wrap_i64 driveD stepD idsAt idOf maskH_nil restore_nil restore_mask List.filterMap_nil List.filterMap_cons VOp.looks VOp.makes exA cells_agg cells_int cells_bool cells_str cells_nilp cells_ptr cells_glob cells_nils cells_sl cells_nilf cells_fn cells_nili cells_ifc known_agg known_tup known_int known_bool known_str known_nilp known_ptr known_glob known_nils known_sl known_nilf known_fn known_nili known_ifc known_unk one_agg one_tup one_int one_bool one_str one_nilp one_ptr one_glob one_nils one_sl one_nilf one_fn one_nili one_ifc asK_int asN_int asB_bool asS_str asG_agg asT_tup
attribute [local go_sem ↓] lc_len lc_take lc_drop lc_known lc_one lc_rens lc_cells lw_known lw_agg lw_asG
set_option maxRecDepth 100000
set_option maxHeartbeats 1000000
theorem least' (hG : G 0 = tbl) (A : Nat) (hA : A < 115792089237316195423570985008687907853269984665640564039457584007913129639936) {h : Heap} {R : V → Heap → Prop} (hQ : R (lw (A % ell)) h) : VCall Tryd.prog G 64 [lw A] h R := by
  refine vcall_plain (Q := fun v => v = lw (A % ell)) (least hG A hA _ ⟨rfl, rfl⟩) (fun g => by simp only [rens, lw_plain]) ?_ ?_
  · rintro v g rfl; exact lw_plain _ g
  · rintro v rfl; exact hQ
def tw : Nat := 1627715501170711445284395025044413883736156588369414752970002579683115011841
theorem lw_twice : V.agg [.int .u64 (nl 11819153939886771969), .int .u64 (nl 14991950615390032711), .int .u64 (nl 14910419812499177061), .int .u64 (nl 259310039853996605)] = lw tw := rfl
theorem tw_lt : tw < 115792089237316195423570985008687907853269984665640564039457584007913129639936 := by decide
def wo : Nat := 7237005577332262213973186563042994240413239274941949949428319933631315875101
theorem lw_once : V.agg [.int .u64 (nl 15486807595281847581), .int .u64 (nl 14334777244411350896), .int .u64 (nl 18446744073709551614), .int .u64 (nl 1152921504606846975)] = lw wo := rfl
theorem lw_less : V.agg [.int .u64 (nl 6346243789798364139), .int .u64 (nl 1503914060200516822), .int .u64 (nl 0), .int .u64 (nl 1152921504606846976)] = lw (ell - 2) := rfl
theorem ell_pos : 0 < ell := by decide
theorem ell_lt : ell < 115792089237316195423570985008687907853269984665640564039457584007913129639936 := by decide
theorem mod_lt (n : Nat) : n % ell < 115792089237316195423570985008687907853269984665640564039457584007913129639936 := Nat.lt_trans (Nat.mod_lt _ ell_pos) ell_lt
theorem mod_lt' (n : Nat) : n % ell < ell := Nat.mod_lt _ ell_pos
theorem mmod (a b : Nat) : a % ell * b % ell = a * b % ell := Nat.mod_mul_mod a b ell
theorem mmod' (a b : Nat) : a * (b % ell) % ell = a * b % ell := Nat.mul_mod_mod a b ell
theorem tw_law (X : Nat) : X * winv % ell * tw * winv % ell = X % ell := by
  have h : winv * tw * winv % ell = 1 := by decide
  rw [Nat.mul_assoc (X * winv % ell), mmod, Nat.mul_assoc X, ← Nat.mul_assoc winv, Nat.mul_mod, h, Nat.mul_one, Nat.mod_mod]
theorem wo_law : wo * winv % ell = 1 := by decide
theorem tw_wo (X : Nat) : X * tw * winv % ell = X * wo % ell := by
  have h : tw * winv % ell = wo := by decide
  rw [Nat.mul_assoc, Nat.mul_mod, h, mmod]
theorem lc_eqL {A B : Nat} (hA : A < 115792089237316195423570985008687907853269984665640564039457584007913129639936) (hB : B < 115792089237316195423570985008687907853269984665640564039457584007913129639936) : eqL [.i, .i, .i, .i] (lc A) (lc B) = some (decide (A = B)) := by
  simp only [eqL, eqV, lc, u, asK, asN, if_true, beq_cc, Option.some.injEq]
  rw [Bool.eq_iff_iff]
  simp only [Bool.and_eq_true, decide_eq_true_eq, Bool.and_true]
  omega
theorem lc_small {n : Nat} (h : n < 18446744073709551616) : [V.int .u64 (n : Int), V.int .u64 (nl 0), V.int .u64 (nl 0), V.int .u64 (nl 0)] = lc n := by
  unfold lc u
  rw [show n % 18446744073709551616 = n by omega, show n / 18446744073709551616 % 18446744073709551616 = 0 by omega, show n / 340282366920938463463374607431768211456 % 18446744073709551616 = 0 by omega, show n / 6277101735386680763835789423207666416102355444464034512896 % 18446744073709551616 = 0 by omega]
  rfl
theorem mul (hG : G 0 = tbl) (A B : Nat) (hA : A < 115792089237316195423570985008687907853269984665640564039457584007913129639936) (hB : B < 115792089237316195423570985008687907853269984665640564039457584007913129639936) (Q : V → Heap → Prop) (hQ : Q (lw (A * B % ell)) []) : VCall Tryd.prog G 29 [lw A, lw B] [] Q := by
  refine vcall_body Tryd.func29 nm29 code29 nt29 ?_
  refine run_drive 60 ?_
  simp only [go_sem, Nat.reduceAdd, Nat.reduceSub, Nat.reduceLeDiff, Nat.reduceMul, Nat.reduceLT, Nat.reduceEqDiff, Int.reduceLT, Int.reduceLE, Int.reduceAdd, Int.reduceSub, Int.reduceMul, Int.reduceToNat, reduceIte, reduceCtorEq, Nat.reduceBEq, v29, v29_0]
  refine run_drw (by kernel_rfl) ?_
  refine drun_drive 40 (p := (_, _)) ?_
  simp only [go_sem, Nat.reduceAdd, Nat.reduceSub, Nat.reduceLeDiff, Nat.reduceMul, Nat.reduceLT, Nat.reduceEqDiff, Int.reduceLT, Int.reduceLE, Int.reduceAdd, Int.reduceSub, Int.reduceMul, Int.reduceToNat, reduceIte, reduceCtorEq, Nat.reduceBEq, v29_1, hG, tbl, lw_twice]
  refine drun_call' ?_
  simp only [go_sem, Nat.reduceAdd, Nat.reduceSub, Nat.reduceLeDiff, Nat.reduceMul, Nat.reduceLT, Nat.reduceEqDiff, Int.reduceLT, Int.reduceLE, Int.reduceAdd, Int.reduceSub, Int.reduceMul, Int.reduceToNat, reduceIte, reduceCtorEq, Nat.reduceBEq, calV]
  refine least' hG A hA ?_
  refine drun_drive 40 (p := (_, _)) ?_
  simp only [go_sem, Nat.reduceAdd, Nat.reduceSub, Nat.reduceLeDiff, Nat.reduceMul, Nat.reduceLT, Nat.reduceEqDiff, Int.reduceLT, Int.reduceLE, Int.reduceAdd, Int.reduceSub, Int.reduceMul, Int.reduceToNat, reduceIte, reduceCtorEq, Nat.reduceBEq]
  refine drun_call' ?_
  simp only [go_sem, Nat.reduceAdd, Nat.reduceSub, Nat.reduceLeDiff, Nat.reduceMul, Nat.reduceLT, Nat.reduceEqDiff, Int.reduceLT, Int.reduceLE, Int.reduceAdd, Int.reduceSub, Int.reduceMul, Int.reduceToNat, reduceIte, reduceCtorEq, Nat.reduceBEq, calV]
  refine least' hG B hB ?_
  refine drun_drive 40 (p := (_, _)) ?_
  simp only [go_sem, Nat.reduceAdd, Nat.reduceSub, Nat.reduceLeDiff, Nat.reduceMul, Nat.reduceLT, Nat.reduceEqDiff, Int.reduceLT, Int.reduceLE, Int.reduceAdd, Int.reduceSub, Int.reduceMul, Int.reduceToNat, reduceIte, reduceCtorEq, Nat.reduceBEq]
  refine drun_call' ?_
  simp only [go_sem, Nat.reduceAdd, Nat.reduceSub, Nat.reduceLeDiff, Nat.reduceMul, Nat.reduceLT, Nat.reduceEqDiff, Int.reduceLT, Int.reduceLE, Int.reduceAdd, Int.reduceSub, Int.reduceMul, Int.reduceToNat, reduceIte, reduceCtorEq, Nat.reduceBEq, calV]
  refine product' hG _ _ (mod_lt' A) (mod_lt B) ?_
  refine drun_drive 40 (p := (_, _)) ?_
  simp only [go_sem, Nat.reduceAdd, Nat.reduceSub, Nat.reduceLeDiff, Nat.reduceMul, Nat.reduceLT, Nat.reduceEqDiff, Int.reduceLT, Int.reduceLE, Int.reduceAdd, Int.reduceSub, Int.reduceMul, Int.reduceToNat, reduceIte, reduceCtorEq, Nat.reduceBEq]
  refine drun_call' ?_
  simp only [go_sem, Nat.reduceAdd, Nat.reduceSub, Nat.reduceLeDiff, Nat.reduceMul, Nat.reduceLT, Nat.reduceEqDiff, Int.reduceLT, Int.reduceLE, Int.reduceAdd, Int.reduceSub, Int.reduceMul, Int.reduceToNat, reduceIte, reduceCtorEq, Nat.reduceBEq, calV]
  refine product' hG _ _ (mod_lt' _) tw_lt ?_
  refine drun_drive 40 (p := (_, _)) ?_
  simp only [go_sem, Nat.reduceAdd, Nat.reduceSub, Nat.reduceLeDiff, Nat.reduceMul, Nat.reduceLT, Nat.reduceEqDiff, Int.reduceLT, Int.reduceLE, Int.reduceAdd, Int.reduceSub, Int.reduceMul, Int.reduceToNat, reduceIte, reduceCtorEq, Nat.reduceBEq]
  refine drun_end ?_
  refine run_drive 60 ?_
  simp only [go_sem, Nat.reduceAdd, Nat.reduceSub, Nat.reduceLeDiff, Nat.reduceMul, Nat.reduceLT, Nat.reduceEqDiff, Int.reduceLT, Int.reduceLE, Int.reduceAdd, Int.reduceSub, Int.reduceMul, Int.reduceToNat, reduceIte, reduceCtorEq, Nat.reduceBEq]
  refine run_ret_drop Tryd.func29 res29 [] (lw (A * B % ell)) [] rfl (by simp) trivial (by simp [uniq]) ?_ hQ
  rw [tw_law, mmod, mmod']
  simp only [go_sem, Nat.reduceAdd, Nat.reduceSub, Nat.reduceLeDiff, Nat.reduceMul, Nat.reduceLT, Nat.reduceEqDiff, Int.reduceLT, Int.reduceLE, Int.reduceAdd, Int.reduceSub, Int.reduceMul, Int.reduceToNat, reduceIte, reduceCtorEq, Nat.reduceBEq, rr29, lw_plain]
theorem mul' (hG : G 0 = tbl) (A B : Nat) (hA : A < 115792089237316195423570985008687907853269984665640564039457584007913129639936) (hB : B < 115792089237316195423570985008687907853269984665640564039457584007913129639936) {h : Heap} {R : V → Heap → Prop} (hQ : R (lw (A * B % ell)) h) : VCall Tryd.prog G 29 [lw A, lw B] h R := by
  refine vcall_plain (Q := fun v => v = lw (A * B % ell)) (mul hG A B hA hB _ ⟨rfl, rfl⟩) (fun g => by simp only [rens, lw_plain]) ?_ ?_
  · rintro v g rfl; exact lw_plain _ g
  · rintro v rfl; exact hQ
theorem is_zero (hG : G 0 = tbl) (A : Nat) (hA : A < 115792089237316195423570985008687907853269984665640564039457584007913129639936) (Q : V → Heap → Prop) (hQ : Q (.bool (decide (A % ell = 0))) []) : VCall Tryd.prog G 24 [lw A] [] Q := by
  refine vcall_body Tryd.func24 nm24 code24 nt24 ?_
  refine run_drive 60 ?_
  simp only [go_sem, Nat.reduceAdd, Nat.reduceSub, Nat.reduceLeDiff, Nat.reduceMul, Nat.reduceLT, Nat.reduceEqDiff, Int.reduceLT, Int.reduceLE, Int.reduceAdd, Int.reduceSub, Int.reduceMul, Int.reduceToNat, reduceIte, reduceCtorEq, Nat.reduceBEq, v24, v24_0]
  refine run_drive 60 ?_
  simp only [go_sem, Nat.reduceAdd, Nat.reduceSub, Nat.reduceLeDiff, Nat.reduceMul, Nat.reduceLT, Nat.reduceEqDiff, Int.reduceLT, Int.reduceLE, Int.reduceAdd, Int.reduceSub, Int.reduceMul, Int.reduceToNat, reduceIte, reduceCtorEq, Nat.reduceBEq, v24_1]
  refine run_call' rfl ?_
  simp only [go_sem, Nat.reduceAdd, Nat.reduceSub, Nat.reduceLeDiff, Nat.reduceMul, Nat.reduceLT, Nat.reduceEqDiff, Int.reduceLT, Int.reduceLE, Int.reduceAdd, Int.reduceSub, Int.reduceMul, Int.reduceToNat, reduceIte, reduceCtorEq, Nat.reduceBEq, calV]
  refine least' hG A hA ?_
  refine run_drive 60 ?_
  simp only [go_sem, Nat.reduceAdd, Nat.reduceSub, Nat.reduceLeDiff, Nat.reduceMul, Nat.reduceLT, Nat.reduceEqDiff, Int.reduceLT, Int.reduceLE, Int.reduceAdd, Int.reduceSub, Int.reduceMul, Int.reduceToNat, reduceIte, reduceCtorEq, Nat.reduceBEq, lc_zero, lc_eqL (mod_lt A) (by decide : 0 < 115792089237316195423570985008687907853269984665640564039457584007913129639936)]
  refine run_ret_drop Tryd.func24 res24 [] (.bool (decide (A % ell = 0))) [] rfl (by simp) trivial (by simp [uniq]) ?_ hQ
  simp only [go_sem, Nat.reduceAdd, Nat.reduceSub, Nat.reduceLeDiff, Nat.reduceMul, Nat.reduceLT, Nat.reduceEqDiff, Int.reduceLT, Int.reduceLE, Int.reduceAdd, Int.reduceSub, Int.reduceMul, Int.reduceToNat, reduceIte, reduceCtorEq, Nat.reduceBEq, rr24, ren]
theorem int_ (n : Nat) (hn : n < 18446744073709551616) (Q : V → Heap → Prop) (hQ : Q (lw n) []) : VCall Tryd.prog G 44 [.int .u64 (n : Int)] [] Q := by
  refine vcall_body Tryd.func44 nm44 code44 nt44 ?_
  refine run_drive 60 ?_
  simp only [go_sem, Nat.reduceAdd, Nat.reduceSub, Nat.reduceLeDiff, Nat.reduceMul, Nat.reduceLT, Nat.reduceEqDiff, Int.reduceLT, Int.reduceLE, Int.reduceAdd, Int.reduceSub, Int.reduceMul, Int.reduceToNat, reduceIte, reduceCtorEq, Nat.reduceBEq, v44, v44_0, v44_1]
  refine run_ret_drop Tryd.func44 res44 [] (lw n) [] rfl (by simp) trivial (by simp [uniq]) ?_ hQ
  simp only [go_sem, Nat.reduceAdd, Nat.reduceSub, Nat.reduceLeDiff, Nat.reduceMul, Nat.reduceLT, Nat.reduceEqDiff, Int.reduceLT, Int.reduceLE, Int.reduceAdd, Int.reduceSub, Int.reduceMul, Int.reduceToNat, reduceIte, reduceCtorEq, Nat.reduceBEq, rr44, lw_plain, lc_small hn]
theorem one_ (A : Nat) (Q : V → Heap → Prop) (hQ : Q (lw 1) []) : VCall Tryd.prog G 179 [lw A] [] Q := by
  refine vcall_body Tryd.func179 nm179 code179 nt179 ?_
  refine run_drive 60 ?_
  simp only [go_sem, Nat.reduceAdd, Nat.reduceSub, Nat.reduceLeDiff, Nat.reduceMul, Nat.reduceLT, Nat.reduceEqDiff, Int.reduceLT, Int.reduceLE, Int.reduceAdd, Int.reduceSub, Int.reduceMul, Int.reduceToNat, reduceIte, reduceCtorEq, Nat.reduceBEq, v179, v179_0, v179_1]
  refine run_ret_drop Tryd.func179 res179 [] (lw 1) [] rfl (by simp) trivial (by simp [uniq]) ?_ hQ
  simp only [go_sem, Nat.reduceAdd, Nat.reduceSub, Nat.reduceLeDiff, Nat.reduceMul, Nat.reduceLT, Nat.reduceEqDiff, Int.reduceLT, Int.reduceLE, Int.reduceAdd, Int.reduceSub, Int.reduceMul, Int.reduceToNat, reduceIte, reduceCtorEq, Nat.reduceBEq, rr179, lw_plain]
  rfl
end Go.Vs.Tryd
namespace Go.Vs.Pr
def Pr (p : Nat) : Prop := 2 ≤ p ∧ ∀ d, d ∣ p → d = 1 ∨ d = p
theorem pr_cop {p a : Nat} (h : Pr p) (ha : ¬ p ∣ a) : Nat.Coprime p a := by
  rcases h.2 _ (Nat.gcd_dvd_left p a) with e | e
  · exact e
  · exact absurd (e ▸ Nat.gcd_dvd_right p a) ha
def ch : Nat → Nat → Nat
  | _, 0 => 1
  | 0, _ + 1 => 0
  | n + 1, k + 1 => ch n k + ch n (k + 1)
theorem ch_zero (n : Nat) : ch n 0 = 1 := by cases n <;> rfl
theorem ch_step (n k : Nat) : ch (n + 1) (k + 1) = ch n k + ch n (k + 1) := rfl
theorem ch_lt : ∀ {n k : Nat}, n < k → ch n k = 0
  | n, 0, h => by omega
  | 0, k + 1, _ => rfl
  | n + 1, k + 1, h => by rw [ch_step, ch_lt (by omega), ch_lt (by omega)]
theorem ch_self : ∀ n, ch n n = 1
  | 0 => rfl
  | n + 1 => by rw [ch_step, ch_self n, ch_lt (Nat.lt_succ_self n)]
theorem ch_mul : ∀ n k : Nat, (n + 1) * ch n k = ch (n + 1) (k + 1) * (k + 1)
  | 0, 0 => rfl
  | 0, k + 1 => by rw [ch_lt (by omega : 0 < k + 1), ch_lt (by omega : 0 + 1 < k + 1 + 1)]; omega
  | n + 1, 0 => by
    have := ch_mul n 0
    rw [ch_zero] at *
    rw [ch_step, ch_zero]
    omega
  | n + 1, k + 1 => by
    have h1 := ch_mul n k
    have h2 := ch_mul n (k + 1)
    rw [ch_step (n + 1) (k + 1)]
    have e : ch (n + 1) (k + 1) = ch n k + ch n (k + 1) := rfl
    generalize ch (n + 1) (k + 1) = Z at *
    generalize ch (n + 1) (k + 1 + 1) = W at *
    rw [Nat.add_mul Z W, ← h2, Nat.mul_succ Z (k + 1), ← h1, Nat.succ_mul (n + 1) Z]
    rw [e, Nat.mul_add]
    omega
def S (n a : Nat) : Nat → Nat
  | 0 => 0
  | m + 1 => S n a m + ch n m * a ^ m
theorem S_step (n a : Nat) : ∀ m, S (n + 1) a (m + 1) = S n a (m + 1) + a * S n a m
  | 0 => by simp [S, ch_zero]
  | m + 1 => by
    have ih := S_step n a m
    show S (n + 1) a (m + 1) + ch (n + 1) (m + 1) * a ^ (m + 1) = (S n a (m + 1) + ch n (m + 1) * a ^ (m + 1)) + a * (S n a m + ch n m * a ^ m)
    rw [ih, ch_step, Nat.add_mul, Nat.mul_add, Nat.pow_succ, show a * (ch n m * a ^ m) = ch n m * (a ^ m * a) by rw [Nat.mul_left_comm, Nat.mul_comm a]]
    omega
theorem S_all (a : Nat) : ∀ n, S n a (n + 1) = (a + 1) ^ n
  | 0 => by simp [S, ch]
  | n + 1 => by
    rw [S_step, show S n a (n + 1 + 1) = S n a (n + 1) + ch n (n + 1) * a ^ (n + 1) from rfl, ch_lt (Nat.lt_succ_self n), S_all a n, Nat.zero_mul, Nat.add_zero, Nat.pow_succ, Nat.mul_add, Nat.mul_one, Nat.mul_comm a, Nat.add_comm]
theorem ch_dvd {p k : Nat} (h : Pr p) (hk : 0 < k) (hkp : k < p) : p ∣ ch p k := by
  obtain ⟨k, rfl⟩ : ∃ j, k = j + 1 := ⟨k - 1, by omega⟩
  obtain ⟨n, rfl⟩ : ∃ j, p = j + 1 := ⟨p - 1, by have := h.1; omega⟩
  have e := ch_mul n k
  have hd : (n + 1) ∣ ch (n + 1) (k + 1) * (k + 1) := ⟨_, e.symm⟩
  refine Nat.Coprime.dvd_of_dvd_mul_right (pr_cop h ?_) hd
  intro hh
  have := Nat.le_of_dvd (by omega) hh
  omega
theorem S_mod {p : Nat} (h : Pr p) (a : Nat) : ∀ m, m < p → S p a (m + 1) % p = 1 % p
  | 0, _ => by simp [S, ch_zero]
  | m + 1, hm => by
    show (S p a (m + 1) + ch p (m + 1) * a ^ (m + 1)) % p = _
    obtain ⟨c, hc⟩ := ch_dvd h (Nat.succ_pos m) hm
    rw [hc, Nat.mul_assoc, Nat.add_mul_mod_self_left, S_mod h a m (by omega)]
theorem dream {p : Nat} (h : Pr p) (a : Nat) : (a + 1) ^ p % p = (a ^ p + 1) % p := by
  rw [← S_all a p]
  obtain ⟨n, hn⟩ : ∃ j, p = j + 1 := ⟨p - 1, by have := h.1; omega⟩
  have e := S_mod h a n (by omega)
  rw [← hn] at e
  show (S p a p + ch p p * a ^ p) % p = _
  rw [Nat.add_mod, e, ch_self, Nat.one_mul, ← Nat.add_mod, Nat.add_comm]
theorem fermat0 {p : Nat} (h : Pr p) : ∀ a, a ^ p % p = a % p
  | 0 => by rw [Nat.zero_pow (by have := h.1; omega)]
  | a + 1 => by rw [dream h, Nat.add_mod, fermat0 h a, ← Nat.add_mod]
theorem dvd_of_mod_eq {p a b : Nat} (h : a % p = b % p) : p ∣ a - b := Nat.dvd_of_mod_eq_zero (Nat.sub_mod_eq_zero_of_mod_eq h)
theorem fermat {p a : Nat} (h : Pr p) (ha : ¬ p ∣ a) : a ^ (p - 1) % p = 1 := by
  have h2 := h.1
  have e : a ^ p = a * a ^ (p - 1) := by
    rw [Nat.mul_comm, ← Nat.pow_succ, show (p - 1).succ = p by omega]
  have hd := dvd_of_mod_eq (fermat0 h a)
  rw [e] at hd
  have hp : 0 < a := Nat.pos_of_ne_zero fun e => ha (e ▸ Nat.dvd_zero p)
  have hq : 0 < a ^ (p - 1) := Nat.pow_pos hp
  rw [show a * a ^ (p - 1) - a = a * (a ^ (p - 1) - 1) by rw [Nat.mul_sub, Nat.mul_one]] at hd
  obtain ⟨c, hc⟩ := Nat.Coprime.dvd_of_dvd_mul_left (pr_cop h ha) hd
  rw [show a ^ (p - 1) = 1 + p * c by omega, Nat.add_mul_mod_self_left, Nat.mod_eq_of_lt (by omega)]
theorem has_pr : ∀ (b n : Nat), n ≤ b → 2 ≤ n → ∃ p, Pr p ∧ p ∣ n
  | 0, n, h, h2 => by omega
  | b + 1, n, h, h2 => by
    by_cases hp : Pr n
    · exact ⟨n, hp, Nat.dvd_refl n⟩
    · have : ∃ d, d ∣ n ∧ d ≠ 1 ∧ d ≠ n := by
        apply Classical.byContradiction
        intro hne
        refine hp ⟨h2, fun d hd => ?_⟩
        by_cases h1 : d = 1
        · exact .inl h1
        · by_cases h3 : d = n
          · exact .inr h3
          · exact (hne ⟨d, hd, h1, h3⟩).elim
      obtain ⟨d, hd, h1, h3⟩ := this
      have hle := Nat.le_of_dvd (by omega) hd
      have h0 : d ≠ 0 := by
        rintro rfl
        have := Nat.eq_zero_of_zero_dvd hd
        omega
      obtain ⟨p, hp, hpd⟩ := has_pr b d (by omega) (by omega)
      exact ⟨p, hp, Nat.dvd_trans hpd hd⟩
theorem pr_of {N B : Nat} (h2 : 2 ≤ N) (hB : N < (B + 1) * (B + 1)) (h : ∀ p, Pr p → p ∣ N → B < p) : Pr N := by
  refine ⟨h2, fun d hd => ?_⟩
  apply Classical.byContradiction
  intro hne
  obtain ⟨e, he⟩ := hd
  have h1 : d ≠ 1 := fun e => hne (.inl e)
  have h3 : d ≠ N := fun e => hne (.inr e)
  have hd0 : d ≠ 0 := by rintro rfl; omega
  have he0 : e ≠ 0 := by rintro rfl; omega
  have he1 : e ≠ 1 := by rintro rfl; omega
  obtain ⟨p, hp, hpd⟩ := has_pr d d (Nat.le_refl d) (by omega)
  obtain ⟨q, hq, hqe⟩ := has_pr e e (Nat.le_refl e) (by omega)
  have a1 := h p hp (he ▸ Nat.dvd_trans hpd ⟨e, rfl⟩)
  have a2 := h q hq (he ▸ Nat.dvd_trans hqe ⟨d, Nat.mul_comm d e⟩)
  have b1 := Nat.le_of_dvd (by omega) hpd
  have b2 := Nat.le_of_dvd (by omega) hqe
  have : (B + 1) * (B + 1) ≤ d * e := Nat.mul_le_mul (by omega) (by omega)
  omega
theorem one_pow_mod {p x : Nat} (h1 : 2 ≤ p) (h : x % p = 1) (k : Nat) : x ^ k % p = 1 := by
  rw [Nat.pow_mod, h, Nat.one_pow, Nat.mod_eq_of_lt (by omega)]
theorem pow_gcd {p x : Nat} (h1 : 2 ≤ p) (m n : Nat) : x ^ m % p = 1 → x ^ n % p = 1 → x ^ (Nat.gcd m n) % p = 1 := by
  induction m, n using Nat.gcd.induction with
  | H0 n => intro _ h; simpa using h
  | H1 m n hm ih =>
    intro a b
    rw [Nat.gcd_rec]
    refine ih ?_ a
    have e : x ^ n = (x ^ m) ^ (n / m) * x ^ (n % m) := by rw [← Nat.pow_mul, ← Nat.pow_add, Nat.div_add_mod]
    rw [e, Nat.mul_mod, one_pow_mod h1 a, Nat.one_mul, Nat.mod_mod] at b
    exact b
theorem mod_of_dvd {p N x y : Nat} (h : p ∣ N) (e : x % N = y % N) : x % p = y % p := by
  rw [← Nat.mod_mod_of_dvd x h, e, Nat.mod_mod_of_dvd y h]
theorem pock {N q a p : Nat} (hN : 2 ≤ N) (hq : Pr q) (hqN : q ∣ N - 1) (ha : a ^ (N - 1) % N = 1) (hg : Nat.gcd (a ^ ((N - 1) / q) % N + (N - 1)) N = 1) (hp : Pr p) (hpN : p ∣ N) : q ∣ p - 1 := by
  have hp2 := hp.1
  have h1 : a ^ (N - 1) % p = 1 := by
    rw [mod_of_dvd hpN (y := 1) (by rw [ha, Nat.mod_eq_of_lt (by omega)]), Nat.mod_eq_of_lt (by omega)]
  generalize hx : a ^ ((N - 1) / q) = x at hg
  have hxq : x ^ q % p = 1 := by rw [← hx, ← Nat.pow_mul, Nat.div_mul_cancel hqN]; exact h1
  have hpx : ¬ p ∣ x := by
    intro h
    have : x ^ q % p = 0 := by
      rw [Nat.pow_mod, Nat.mod_eq_zero_of_dvd h, Nat.zero_pow (by have := hq.1; omega), Nat.zero_mod]
    omega
  have hf := fermat hp hpx
  apply Classical.byContradiction
  intro hne
  have hc := pr_cop hq hne
  have h3 := pow_gcd hp2 _ _ hxq hf
  rw [show Nat.gcd q (p - 1) = 1 from hc, Nat.pow_one] at h3
  have h4 : p ∣ x % N + (N - 1) := by
    apply Nat.dvd_of_mod_eq_zero
    rw [Nat.add_mod, Nat.mod_mod_of_dvd x hpN, h3, ← Nat.add_mod_mod, Nat.mod_mod]
    rw [Nat.add_mod_mod, show 1 + (N - 1) = N by omega]
    exact Nat.mod_eq_zero_of_dvd hpN
  have h5 := Nat.dvd_gcd h4 hpN
  rw [hg] at h5
  have := Nat.le_of_dvd (by omega) h5
  omega
def pm (n : Nat) : Nat → Nat → Nat → Nat → Nat
  | 0, _, _, acc => acc % n
  | f + 1, b, e, acc => bif Nat.beq (e % 2) 1 then pm n f (b * b % n) (e / 2) (acc * b % n) else pm n f (b * b % n) (e / 2) acc
theorem pm_eq (n : Nat) : ∀ (f b e acc : Nat), e < 2 ^ f → pm n f b e acc = acc * b ^ e % n
  | 0, b, e, acc, h => by
    have : e = 0 := by rw [Nat.pow_zero] at h; omega
    subst this; simp [pm]
  | f + 1, b, e, acc, h => by
    have h' : e / 2 < 2 ^ f := by rw [Nat.pow_succ] at h; omega
    have key : (b * b % n) ^ (e / 2) % n = b ^ (2 * (e / 2)) % n := by
      rw [← Nat.pow_mod, ← Nat.pow_two, ← Nat.pow_mul]
    unfold pm
    cases hb : Nat.beq (e % 2) 1
    · have he : e % 2 ≠ 1 := fun h => by rw [h] at hb; cases hb
      simp only [cond_false]
      rw [pm_eq n f _ _ _ h', Nat.mul_mod, key, ← Nat.mul_mod, show 2 * (e / 2) = e by omega]
    · have he : e % 2 = 1 := Nat.eq_of_beq_eq_true hb
      simp only [cond_true]
      rw [pm_eq n f _ _ _ h', Nat.mul_mod, key, Nat.mod_mod, ← Nat.mul_mod, Nat.mul_assoc, Nat.mul_comm b, ← Nat.pow_succ, show (2 * (e / 2)).succ = e by omega]
theorem pm_one {n f b e : Nat} (h : e < 2 ^ f) : b ^ e % n = pm n f b e 1 := by rw [pm_eq n f b e 1 h, Nat.one_mul]
theorem pock' {N q a p : Nat} (h : (decide (2 ≤ N) && Nat.beq ((N - 1) % q) 0 && Nat.beq (pm N 256 a (N - 1) 1) 1 && Nat.beq (Nat.gcd (pm N 256 a ((N - 1) / q) 1 + (N - 1)) N) 1 && decide (N < 2 ^ 256)) = true) (hq : Pr q) (hp : Pr p) (hpN : p ∣ N) : q ∣ p - 1 := by
  simp only [Bool.and_eq_true, decide_eq_true_eq] at h
  obtain ⟨⟨⟨⟨h1, h2⟩, h3⟩, h4⟩, h5⟩ := h
  have h3 := Nat.eq_of_beq_eq_true h3
  have h4 := Nat.eq_of_beq_eq_true h4
  rw [← pm_one (by omega)] at h3
  rw [← pm_one (Nat.lt_of_le_of_lt (Nat.div_le_self _ _) (by omega))] at h4
  exact pock h1 hq (Nat.dvd_of_mod_eq_zero (Nat.eq_of_beq_eq_true h2)) h3 h4 hp hpN
theorem pock1 {N q a : Nat} (h : (decide (2 ≤ N) && Nat.beq ((N - 1) % q) 0 && Nat.beq (pm N 256 a (N - 1) 1) 1 && Nat.beq (Nat.gcd (pm N 256 a ((N - 1) / q) 1 + (N - 1)) N) 1 && decide (N < 2 ^ 256)) = true) (hq : Pr q) (hs : N < (q + 1) * (q + 1)) : Pr N := by
  refine pr_of (B := q) ?_ hs fun p hp hpN => ?_
  · simp only [Bool.and_eq_true, decide_eq_true_eq] at h
    exact h.1.1.1.1
  · have := Nat.le_of_dvd (by have := hp.1; omega) (pock' h hq hp hpN)
    have := hp.1
    omega
def nod (n : Nat) : Nat → Bool
  | 0 => true
  | 1 => true
  | m + 2 => !(Nat.beq (n % (m + 2)) 0) && nod n (m + 1)
theorem nod_get {n : Nat} : ∀ {m d : Nat}, nod n m = true → 2 ≤ d → d ≤ m → ¬ d ∣ n
  | 0, d, _, h2, h3 => by omega
  | 1, d, _, h2, h3 => by omega
  | m + 2, d, h, h2, h3 => by
    simp only [nod, Bool.and_eq_true, Bool.not_eq_true'] at h
    by_cases e : d = m + 2
    · subst e
      intro hd
      rw [Nat.mod_eq_zero_of_dvd hd] at h
      cases h.1
    · exact nod_get h.2 h2 (by omega)
theorem small {n m : Nat} (h2 : 2 ≤ n) (hm : n < (m + 1) * (m + 1)) (h : nod n m = true) : Pr n := by
  refine pr_of h2 hm fun p hp hpn => ?_
  rcases Nat.lt_or_ge m p with h1 | h1
  · exact h1
  · exact (nod_get h hp.1 h1 hpn).elim
theorem p1 : Pr 1224481 := small (m := 1200) (by decide) (by decide) (by decide +kernel)
theorem p2 : Pr 531581 := small (m := 1200) (by decide) (by decide) (by decide +kernel)
theorem p3a {p : Nat} (hp : Pr p) (hpN : p ∣ 1257559732178653) : 1224481 ∣ p - 1 := pock' (N := 1257559732178653) (a := 2) (by decide +kernel) p1 hp hpN
theorem p3b {p : Nat} (hp : Pr p) (hpN : p ∣ 1257559732178653) : 531581 ∣ p - 1 := pock' (N := 1257559732178653) (a := 2) (by decide +kernel) p2 hp hpN
theorem both {m n p B : Nat} (hc : Nat.gcd m n = 1) (hp : Pr p) (a1 : m ∣ p - 1) (a2 : n ∣ p - 1) (hB : m * n = B) : B < p := by
  have h2 := hp.1
  have hd : m * n ∣ p - 1 := Nat.Coprime.mul_dvd_of_dvd_of_dvd hc a1 a2
  have := Nat.le_of_dvd (by omega) hd
  omega
theorem p3 : Pr 1257559732178653 := pr_of (B := 650910834461) (by decide) (by decide) fun p hp hpN => both (by decide +kernel) hp (p3a hp hpN) (p3b hp hpN) (by decide)
theorem p4 : Pr 4434155615661930479 := pock1 (a := 2) (by decide +kernel) p3 (by decide)
theorem p5 : Pr 172054593956031949258510691 := pock1 (a := 2) (by decide +kernel) p4 (by decide)
theorem p6 : Pr 19757330305831588566944191468367130476339 := pock1 (a := 2) (by decide +kernel) p5 (by decide)
theorem p7 : Pr 276602624281642239937218680557139826668747 := pock1 (a := 2) (by decide +kernel) p6 (by decide)
theorem p8 : Pr 7237005577332262213973186563042994240857116359379907606001950938285454250989 := pock1 (a := 2) (by decide +kernel) p7 (by decide)
theorem mul_zero_mod {p a b : Nat} (h : Pr p) (e : a * b % p = 0) : a % p = 0 ∨ b % p = 0 := by
  by_cases ha : p ∣ a
  · exact .inl (Nat.mod_eq_zero_of_dvd ha)
  · exact .inr (Nat.mod_eq_zero_of_dvd (Nat.Coprime.dvd_of_dvd_mul_left (pr_cop h ha) (Nat.dvd_of_mod_eq_zero e)))
theorem inv_unique {p a x y : Nat} (hx : x * a % p = 1) (hy : y * a % p = 1) : x % p = y % p := by
  have e1 : x * (y * a) % p = x % p := by rw [Nat.mul_mod, hy, Nat.mul_one, Nat.mod_mod]
  have e2 : y * (x * a) % p = y % p := by rw [Nat.mul_mod, hx, Nat.mul_one, Nat.mod_mod]
  rw [← e1, ← e2, Nat.mul_left_comm]
theorem inv_pow {p a : Nat} (h : Pr p) (ha : a % p ≠ 0) : a ^ (p - 2) * a % p = 1 := by
  have := h.1
  rw [← Nat.pow_succ, show (p - 2).succ = p - 1 by omega]
  exact fermat h fun hd => ha (Nat.mod_eq_zero_of_dvd hd)
end Go.Vs.Pr
namespace Go.Vs.Tryd
open Go.Proofs
variable {G : Nat → List V}
set_option linter.unusedSimpArgs false
attribute [local go_sem] lenO_nils lenO_sl sliceAtV Int.sub_zero List.length_append List.all_append ge_iff_le gt_iff_lt Int.natCast_nonneg Int.toNat_natCast Nat.mul_one b_and_ll b_shr_ll b_mul_ll b_add_ll b_or_ll b_shl_ll pick_ll pick_lc pick_bb driveS stopV Option.isSome_some Option.isSome_none Kind.m Kind.w Kind.g look_ro look_rw look_grow drive stepV exo expo evs fillV isNil nilKind eqV eqL optA optM sliceAtV ev kn ldc stc splice appV srcV lenV setd wantV exitV rvs rv one List.length_cons List.length_nil List.cons_append List.nil_append List.append_nil List.replicate List.getD_cons_zero List.getD_cons_succ List.set_cons_zero List.set_cons_succ List.getElem?_cons_zero List.getElem?_cons_succ List.getElem?_nil List.take_succ_cons List.take_zero List.take_nil List.drop_succ_cons List.drop_zero List.drop_nil List.all_cons List.all_nil List.any_cons List.any_nil Bool.and_true Bool.true_and Bool.and_self Option.map_some Option.map_none Option.bind_some Option.some.injEq Nat.add_zero Nat.zero_add Int.toNat_zero Int.toNat_one Int.zero_add Int.add_zero if_true if_false ite_true ite_false and_true true_and and_self ne_eq not_false_eq_true not_true_eq_false decide_true decide_false Bool.false_eq_true Bool.not_true Bool.not_false beq_self_eq_true BEq.rfl Bool.not_eq_true Nat.le_refl Int.le_refl Nat.zero_le List.foldl List.map_cons List.map_nil Prod.mk.injEq Int.cast_ofNat_Int Int.zero_le_ofNat b_add_cc b_add_cl b_add_lc b_mul_cc b_mul_cl b_mul_lc b_sub_cc b_sub_cl b_sub_lc b_and_cc b_and_cl b_and_lc b_or_cc b_or_cl b_or_lc b_xor_cc b_xor_cl b_xor_lc b_andNot_cc b_andNot_cl b_andNot_lc b_shr_cc b_shr_cl b_shr_lc b_shl_cc b_shl_cl b_shl_lc b_lss b_leq b_gtr b_geq b_add_i b_sub_i b_mul_i beq_cc beq_cl beq_lc beq_ll b_quo_i b_rem_i neg_u64 wrap_i64 driveD stepD idsAt idOf maskH_nil restore_nil restore_mask List.filterMap_nil List.filterMap_cons VOp.looks VOp.makes exA cells_agg cells_int cells_bool cells_str cells_nilp cells_ptr cells_glob cells_nils cells_sl cells_nilf cells_fn cells_nili cells_ifc known_agg known_tup known_int known_bool known_str known_nilp known_ptr known_glob known_nils known_sl known_nilf known_fn known_nili known_ifc known_unk one_agg one_tup one_int one_bool one_str one_nilp one_ptr one_glob one_nils one_sl one_nilf one_fn one_nili one_ifc asK_int asN_int asB_bool asS_str asG_agg asT_tup
attribute [local go_sem ↓] lc_len lc_take lc_drop lc_known lc_one lc_rens lc_cells lw_known lw_agg lw_asG
set_option maxRecDepth 100000
set_option maxHeartbeats 1000000
theorem lc_at (E k : Nat) (hk : k < 4) : ((lc E).drop k).take 1 = [.int .u64 ((E / 18446744073709551616 ^ k % 18446744073709551616 : Nat) : Int)] := by
  have : k = 0 ∨ k = 1 ∨ k = 2 ∨ k = 3 := by omega
  rcases this with rfl | rfl | rfl | rfl
  · simp only [Nat.pow_zero, Nat.div_one]; rfl
  all_goals rfl
theorem bit_law (E m : Nat) : a64 (r64 (E / 18446744073709551616 ^ (m / 64) % 18446744073709551616) (m % 64)) 1 = E / 2 ^ m % 2 := by
  unfold a64 r64
  rw [show min (m % 64) 64 = m % 64 by omega, show 1 % 18446744073709551616 = 2 ^ 1 - 1 from rfl, Nat.and_two_pow_sub_one_eq_mod, show 2 ^ 1 = 2 from rfl, show 18446744073709551616 = 2 ^ 64 from rfl]
  generalize hF : E / (2 ^ 64) ^ (m / 64) = F
  have h1 : E / 2 ^ m = F / 2 ^ (m % 64) := by
    rw [← hF, Nat.div_div_eq_div_mul, ← Nat.pow_mul, ← Nat.pow_add, Nat.div_add_mod]
  rw [h1]
  have h64 : m % 64 < 64 := Nat.mod_lt _ (by decide)
  obtain ⟨c, hc⟩ : ∃ c, 64 = m % 64 + 1 + c := ⟨64 - (m % 64 + 1), by omega⟩
  have h2 : F % 2 ^ 64 / 2 ^ (m % 64) % 2 = F / 2 ^ (m % 64) % 2 := by
    generalize m % 64 = j at *
    rw [show F % 2 ^ 64 = F % (2 ^ j * (2 * 2 ^ c)) by rw [hc, Nat.pow_add, Nat.pow_add, Nat.pow_one, Nat.mul_assoc], Nat.mod_mul_right_div_self, Nat.mod_mul_right_mod]
  rw [Nat.mod_mod_of_dvd _ (show 2 ∣ 2 ^ 64 from ⟨2 ^ 63, rfl⟩), h2]
def pw (A E n m : Nat) : List V := [lw A, lw E, .int .i64 n, .ptr 0 0, .ptr 1 0, .unk, .ptr 2 0, .ptr 3 0, .ptr 4 0, .bool (decide (E % 2 ^ n / 2 ^ m ≠ 0)), .int .i64 ((m : Int) - 1)] ++ List.replicate 32 .unk
def ph (A E n m : Nat) : Heap := [some ⟨.rw, lc A⟩, some ⟨.rw, lc E⟩, some ⟨.rw, [.int .u64 (nl 0), .int .u64 (nl 0), .int .u64 (nl 0), .int .u64 (nl 0)]⟩, some ⟨.rw, lc (A * wo % ell)⟩, some ⟨.rw, lc (A ^ (E % 2 ^ n / 2 ^ m) * wo % ell)⟩]
theorem wo_end (X : Nat) : X * wo % ell * winv % ell = X % ell := by
  rw [mmod, Nat.mul_assoc, Nat.mul_mod, wo_law, Nat.mul_one, Nat.mod_mod]
theorem mont (X Y : Nat) : X * wo % ell * (Y * wo % ell) * winv % ell = X * Y * wo % ell := by
  rw [Nat.mul_assoc, mmod, ← mmod' (X * wo) (Y * wo % ell * winv), wo_end, mmod', Nat.mul_right_comm]
theorem bits_up (E n m : Nat) (h : m < n) : E % 2 ^ n / 2 ^ m = 2 * (E % 2 ^ n / 2 ^ (m + 1)) + E / 2 ^ m % 2 := by
  have h2 : E % 2 ^ n / 2 ^ m % 2 = E / 2 ^ m % 2 := by
    obtain ⟨c, rfl⟩ : ∃ c, n = m + 1 + c := ⟨n - (m + 1), by omega⟩
    rw [show 2 ^ (m + 1 + c) = 2 ^ m * (2 * 2 ^ c) by rw [Nat.pow_add, Nat.pow_add, Nat.pow_one, Nat.mul_assoc], Nat.mod_mul_right_div_self, Nat.mod_mul_right_mod]
  rw [← h2, Nat.pow_succ, ← Nat.div_div_eq_div_mul]
  exact (Nat.div_add_mod _ 2).symm
theorem power_loop (hG : G 0 = tbl) (A E n : Nat) (hE : E < 115792089237316195423570985008687907853269984665640564039457584007913129639936) (hn : n ≤ 256) {Q : V → Heap → Prop} (hQ : Q (lw (A ^ (E % 2 ^ n) % ell)) []) : ∀ m, m ≤ n → Run Tryd.prog G 68 0 Q (.l v68_13 :: .b 0 :: .c (.seq (.reg v68_15) .ret) :: [], ⟨pw A E n m, ph A E n m⟩)
  | 0, _ => by
    unfold pw ph
    rw [Nat.pow_zero, Nat.div_one]
    refine run_loop_eq v68_13.eq_1 ?_
    refine run_drive 60 ?_
    simp only [go_sem, Nat.reduceAdd, Nat.reduceSub, Nat.reduceLeDiff, Nat.reduceMul, Nat.reduceLT, Nat.reduceEqDiff, Int.reduceLT, Int.reduceLE, Int.reduceAdd, Int.reduceSub, Int.reduceMul, Int.reduceToNat, reduceIte, reduceCtorEq, Nat.reduceBEq, v68_5, v68_15]
    refine run_call' rfl ?_
    simp only [go_sem, Nat.reduceAdd, Nat.reduceSub, Nat.reduceLeDiff, Nat.reduceMul, Nat.reduceLT, Nat.reduceEqDiff, Int.reduceLT, Int.reduceLE, Int.reduceAdd, Int.reduceSub, Int.reduceMul, Int.reduceToNat, reduceIte, reduceCtorEq, Nat.reduceBEq, calV]
    refine product' hG _ _ (mod_lt' _) (by decide : 1 < 115792089237316195423570985008687907853269984665640564039457584007913129639936) ?_
    refine run_drive 60 ?_
    simp only [go_sem, Nat.reduceAdd, Nat.reduceSub, Nat.reduceLeDiff, Nat.reduceMul, Nat.reduceLT, Nat.reduceEqDiff, Int.reduceLT, Int.reduceLE, Int.reduceAdd, Int.reduceSub, Int.reduceMul, Int.reduceToNat, reduceIte, reduceCtorEq, Nat.reduceBEq]
    refine run_ret_drop Tryd.func68 res68 [] (lw (A ^ (E % 2 ^ n) % ell)) [] rfl (by simp) trivial (by simp [uniq]) ?_ hQ
    rw [wo_end]
    simp only [go_sem, Nat.reduceAdd, Nat.reduceSub, Nat.reduceLeDiff, Nat.reduceMul, Nat.reduceLT, Nat.reduceEqDiff, Int.reduceLT, Int.reduceLE, Int.reduceAdd, Int.reduceSub, Int.reduceMul, Int.reduceToNat, reduceIte, reduceCtorEq, Nat.reduceBEq, rr68, lw_plain]
  | m + 1, hm => by
    have ih := power_loop hG A E n hE hn hQ m (by omega)
    unfold pw ph
    rw [show ((m + 1 : Nat) : Int) - 1 = (m : Int) by omega]
    have hw : binI .quo .i64 (m : Int) .i64 64 = some (.int .i64 ((m / 64 : Nat) : Int)) := by
      rw [b_quo_i _ _ (by decide), show (m : Int).tdiv 64 = ((m / 64 : Nat) : Int) from (Int.ofNat_tdiv m 64).symm, wrap_i64 (by omega) (by omega)]
    have hr : binI .rem .i64 (m : Int) .i64 64 = some (.int .i64 ((m % 64 : Nat) : Int)) := by
      rw [b_rem_i _ _ (by decide), show (m : Int).tmod 64 = ((m % 64 : Nat) : Int) from (Int.ofNat_tmod m 64).symm]
    have h4 : (((m / 64 : Nat) : Int) < 4) = True := eq_true (by omega)
    have hl := lc_at E (m / 64) (by omega)
    have hb := bit_law E m
    have hwm : IntKind.i64.wrap ((m : Int) - 1) = (m : Int) - 1 := wrap_i64 (by omega) (by omega)
    have hu := bits_up E n m (by omega)
    by_cases h1 : E % 2 ^ n / 2 ^ (m + 1) = 0 <;> by_cases h2 : E / 2 ^ m % 2 = 1
    · have hd := decide_eq_true h2
      have hn1 : decide (E % 2 ^ n / 2 ^ (m + 1) ≠ 0) = false := decide_eq_false (by omega)
      rw [hn1]
      refine run_loop_eq v68_13.eq_1 ?_
      refine run_drive 60 ?_
      simp only [go_sem, Nat.reduceAdd, Nat.reduceSub, Nat.reduceLeDiff, Nat.reduceMul, Nat.reduceLT, Nat.reduceEqDiff, Int.reduceLT, Int.reduceLE, Int.reduceAdd, Int.reduceSub, Int.reduceMul, Int.reduceToNat, reduceIte, reduceCtorEq, Nat.reduceBEq, v68_5, v68_11, v68_6, v68_8, v68_9, v68_10, hw, hr, h4, hl, hb, hd]
      refine run_call' rfl ?_
      simp only [go_sem, Nat.reduceAdd, Nat.reduceSub, Nat.reduceLeDiff, Nat.reduceMul, Nat.reduceLT, Nat.reduceEqDiff, Int.reduceLT, Int.reduceLE, Int.reduceAdd, Int.reduceSub, Int.reduceMul, Int.reduceToNat, reduceIte, reduceCtorEq, Nat.reduceBEq, calV]
      refine product' hG _ _ (mod_lt' _) (mod_lt _) ?_
      refine run_drive 60 ?_
      simp only [go_sem, Nat.reduceAdd, Nat.reduceSub, Nat.reduceLeDiff, Nat.reduceMul, Nat.reduceLT, Nat.reduceEqDiff, Int.reduceLT, Int.reduceLE, Int.reduceAdd, Int.reduceSub, Int.reduceMul, Int.reduceToNat, reduceIte, reduceCtorEq, Nat.reduceBEq, v68_12]
      rw [mont, ← Nat.pow_succ, hwm]
      have he : E % 2 ^ n / 2 ^ m = (E % 2 ^ n / 2 ^ (m + 1)).succ := by omega
      rw [← he]
      have hn2 : decide (E % 2 ^ n / 2 ^ m ≠ 0) = true := decide_eq_true (by omega)
      refine run_rename [0, 1, 2, 3, 4] rfl (by simp) ?_ ?_ ?_ ih
      · simp only [go_sem, Nat.reduceAdd, Nat.reduceSub, Nat.reduceLeDiff, Nat.reduceMul, Nat.reduceLT, Nat.reduceEqDiff, Int.reduceLT, Int.reduceLE, Int.reduceAdd, Int.reduceSub, Int.reduceMul, Int.reduceToNat, reduceIte, reduceCtorEq, Nat.reduceBEq, hfit, ph, lc_fit, fit, ren, gmap, lw_plain, true_or, or_true]
      · simp [uniq, ph, wrB]
      · unfold pw; rw [hn2]; simp only [go_sem, Nat.reduceAdd, Nat.reduceSub, Nat.reduceLeDiff, Nat.reduceMul, Nat.reduceLT, Nat.reduceEqDiff, Int.reduceLT, Int.reduceLE, Int.reduceAdd, Int.reduceSub, Int.reduceMul, Int.reduceToNat, reduceIte, reduceCtorEq, Nat.reduceBEq, fit, pw, ren, gmap, lw_plain, true_or, or_true]
    · have hd := decide_eq_false h2
      have hn1 : decide (E % 2 ^ n / 2 ^ (m + 1) ≠ 0) = false := decide_eq_false (by omega)
      rw [hn1]
      refine run_loop_eq v68_13.eq_1 ?_
      refine run_drive 60 ?_
      simp only [go_sem, Nat.reduceAdd, Nat.reduceSub, Nat.reduceLeDiff, Nat.reduceMul, Nat.reduceLT, Nat.reduceEqDiff, Int.reduceLT, Int.reduceLE, Int.reduceAdd, Int.reduceSub, Int.reduceMul, Int.reduceToNat, reduceIte, reduceCtorEq, Nat.reduceBEq, v68_5, v68_11, v68_6, v68_8, v68_9, v68_10, v68_12, hw, hr, h4, hl, hb, hd, hwm]
      have he : E % 2 ^ n / 2 ^ m = E % 2 ^ n / 2 ^ (m + 1) := by omega
      rw [← he]
      have hn2 : decide (E % 2 ^ n / 2 ^ m ≠ 0) = false := decide_eq_false (by omega)
      refine run_rename [0, 1, 2, 3, 4] rfl (by simp) ?_ ?_ ?_ ih
      · simp only [go_sem, Nat.reduceAdd, Nat.reduceSub, Nat.reduceLeDiff, Nat.reduceMul, Nat.reduceLT, Nat.reduceEqDiff, Int.reduceLT, Int.reduceLE, Int.reduceAdd, Int.reduceSub, Int.reduceMul, Int.reduceToNat, reduceIte, reduceCtorEq, Nat.reduceBEq, hfit, ph, lc_fit, fit, ren, gmap, lw_plain, true_or, or_true]
      · simp [uniq, ph, wrB]
      · unfold pw; rw [hn2]; simp only [go_sem, Nat.reduceAdd, Nat.reduceSub, Nat.reduceLeDiff, Nat.reduceMul, Nat.reduceLT, Nat.reduceEqDiff, Int.reduceLT, Int.reduceLE, Int.reduceAdd, Int.reduceSub, Int.reduceMul, Int.reduceToNat, reduceIte, reduceCtorEq, Nat.reduceBEq, fit, pw, ren, gmap, lw_plain, true_or, or_true]
    · have hd := decide_eq_true h2
      have hn1 : decide (E % 2 ^ n / 2 ^ (m + 1) ≠ 0) = true := decide_eq_true h1
      rw [hn1]
      refine run_loop_eq v68_13.eq_1 ?_
      refine run_drive 60 ?_
      simp only [go_sem, Nat.reduceAdd, Nat.reduceSub, Nat.reduceLeDiff, Nat.reduceMul, Nat.reduceLT, Nat.reduceEqDiff, Int.reduceLT, Int.reduceLE, Int.reduceAdd, Int.reduceSub, Int.reduceMul, Int.reduceToNat, reduceIte, reduceCtorEq, Nat.reduceBEq, v68_5, v68_11, v68_6, v68_7]
      refine run_call' rfl ?_
      simp only [go_sem, Nat.reduceAdd, Nat.reduceSub, Nat.reduceLeDiff, Nat.reduceMul, Nat.reduceLT, Nat.reduceEqDiff, Int.reduceLT, Int.reduceLE, Int.reduceAdd, Int.reduceSub, Int.reduceMul, Int.reduceToNat, reduceIte, reduceCtorEq, Nat.reduceBEq, calV]
      refine product' hG _ _ (mod_lt' _) (mod_lt _) ?_
      rw [mont, ← Nat.pow_add]
      refine run_drive 60 ?_
      simp only [go_sem, Nat.reduceAdd, Nat.reduceSub, Nat.reduceLeDiff, Nat.reduceMul, Nat.reduceLT, Nat.reduceEqDiff, Int.reduceLT, Int.reduceLE, Int.reduceAdd, Int.reduceSub, Int.reduceMul, Int.reduceToNat, reduceIte, reduceCtorEq, Nat.reduceBEq, v68_8, v68_9, v68_10, v68_12, hw, hr, h4, hl, hb, hd, hwm]
      refine run_call' rfl ?_
      simp only [go_sem, Nat.reduceAdd, Nat.reduceSub, Nat.reduceLeDiff, Nat.reduceMul, Nat.reduceLT, Nat.reduceEqDiff, Int.reduceLT, Int.reduceLE, Int.reduceAdd, Int.reduceSub, Int.reduceMul, Int.reduceToNat, reduceIte, reduceCtorEq, Nat.reduceBEq, calV]
      refine product' hG _ _ (mod_lt' _) (mod_lt _) ?_
      rw [mont, ← Nat.pow_succ]
      have he : E % 2 ^ n / 2 ^ m = (E % 2 ^ n / 2 ^ (m + 1) + E % 2 ^ n / 2 ^ (m + 1)).succ := by omega
      rw [← he]
      refine run_drive 60 ?_
      simp only [go_sem, Nat.reduceAdd, Nat.reduceSub, Nat.reduceLeDiff, Nat.reduceMul, Nat.reduceLT, Nat.reduceEqDiff, Int.reduceLT, Int.reduceLE, Int.reduceAdd, Int.reduceSub, Int.reduceMul, Int.reduceToNat, reduceIte, reduceCtorEq, Nat.reduceBEq, hwm]
      have hn2 : decide (E % 2 ^ n / 2 ^ m ≠ 0) = true := decide_eq_true (by omega)
      refine run_rename [0, 1, 2, 3, 4] rfl (by simp) ?_ ?_ ?_ ih
      · simp only [go_sem, Nat.reduceAdd, Nat.reduceSub, Nat.reduceLeDiff, Nat.reduceMul, Nat.reduceLT, Nat.reduceEqDiff, Int.reduceLT, Int.reduceLE, Int.reduceAdd, Int.reduceSub, Int.reduceMul, Int.reduceToNat, reduceIte, reduceCtorEq, Nat.reduceBEq, hfit, ph, lc_fit, fit, ren, gmap, lw_plain, true_or, or_true]
      · simp [uniq, ph, wrB]
      · unfold pw; rw [hn2]; simp only [go_sem, Nat.reduceAdd, Nat.reduceSub, Nat.reduceLeDiff, Nat.reduceMul, Nat.reduceLT, Nat.reduceEqDiff, Int.reduceLT, Int.reduceLE, Int.reduceAdd, Int.reduceSub, Int.reduceMul, Int.reduceToNat, reduceIte, reduceCtorEq, Nat.reduceBEq, fit, pw, ren, gmap, lw_plain, true_or, or_true]
    · have hd := decide_eq_false h2
      have hn1 : decide (E % 2 ^ n / 2 ^ (m + 1) ≠ 0) = true := decide_eq_true h1
      rw [hn1]
      refine run_loop_eq v68_13.eq_1 ?_
      refine run_drive 60 ?_
      simp only [go_sem, Nat.reduceAdd, Nat.reduceSub, Nat.reduceLeDiff, Nat.reduceMul, Nat.reduceLT, Nat.reduceEqDiff, Int.reduceLT, Int.reduceLE, Int.reduceAdd, Int.reduceSub, Int.reduceMul, Int.reduceToNat, reduceIte, reduceCtorEq, Nat.reduceBEq, v68_5, v68_11, v68_6, v68_7]
      refine run_call' rfl ?_
      simp only [go_sem, Nat.reduceAdd, Nat.reduceSub, Nat.reduceLeDiff, Nat.reduceMul, Nat.reduceLT, Nat.reduceEqDiff, Int.reduceLT, Int.reduceLE, Int.reduceAdd, Int.reduceSub, Int.reduceMul, Int.reduceToNat, reduceIte, reduceCtorEq, Nat.reduceBEq, calV]
      refine product' hG _ _ (mod_lt' _) (mod_lt _) ?_
      rw [mont, ← Nat.pow_add]
      have he : E % 2 ^ n / 2 ^ m = E % 2 ^ n / 2 ^ (m + 1) + E % 2 ^ n / 2 ^ (m + 1) := by omega
      rw [← he]
      refine run_drive 60 ?_
      simp only [go_sem, Nat.reduceAdd, Nat.reduceSub, Nat.reduceLeDiff, Nat.reduceMul, Nat.reduceLT, Nat.reduceEqDiff, Int.reduceLT, Int.reduceLE, Int.reduceAdd, Int.reduceSub, Int.reduceMul, Int.reduceToNat, reduceIte, reduceCtorEq, Nat.reduceBEq, v68_8, v68_9, v68_10, v68_12, hw, hr, h4, hl, hb, hd, hwm]
      have hn2 : decide (E % 2 ^ n / 2 ^ m ≠ 0) = true := decide_eq_true (by omega)
      refine run_rename [0, 1, 2, 3, 4] rfl (by simp) ?_ ?_ ?_ ih
      · simp only [go_sem, Nat.reduceAdd, Nat.reduceSub, Nat.reduceLeDiff, Nat.reduceMul, Nat.reduceLT, Nat.reduceEqDiff, Int.reduceLT, Int.reduceLE, Int.reduceAdd, Int.reduceSub, Int.reduceMul, Int.reduceToNat, reduceIte, reduceCtorEq, Nat.reduceBEq, hfit, ph, lc_fit, fit, ren, gmap, lw_plain, true_or, or_true]
      · simp [uniq, ph, wrB]
      · unfold pw; rw [hn2]; simp only [go_sem, Nat.reduceAdd, Nat.reduceSub, Nat.reduceLeDiff, Nat.reduceMul, Nat.reduceLT, Nat.reduceEqDiff, Int.reduceLT, Int.reduceLE, Int.reduceAdd, Int.reduceSub, Int.reduceMul, Int.reduceToNat, reduceIte, reduceCtorEq, Nat.reduceBEq, fit, pw, ren, gmap, lw_plain, true_or, or_true]
theorem power (hG : G 0 = tbl) (A E n : Nat) (hA : A < 115792089237316195423570985008687907853269984665640564039457584007913129639936) (hE : E < 115792089237316195423570985008687907853269984665640564039457584007913129639936) (hn : n ≤ 256) (Q : V → Heap → Prop) (hQ : Q (lw (A ^ (E % 2 ^ n) % ell)) []) : VCall Tryd.prog G 68 [lw A, lw E, .int .i64 (n : Int)] [] Q := by
  refine vcall_body Tryd.func68 nm68 code68 nt68 ?_
  refine run_drive 60 ?_
  simp only [go_sem, Nat.reduceAdd, Nat.reduceSub, Nat.reduceLeDiff, Nat.reduceMul, Nat.reduceLT, Nat.reduceEqDiff, Int.reduceLT, Int.reduceLE, Int.reduceAdd, Int.reduceSub, Int.reduceMul, Int.reduceToNat, reduceIte, reduceCtorEq, Nat.reduceBEq, v68, v68_0]
  refine run_drw (by kernel_rfl) ?_
  refine drun_drive 40 (p := (_, _)) ?_
  simp only [go_sem, Nat.reduceAdd, Nat.reduceSub, Nat.reduceLeDiff, Nat.reduceMul, Nat.reduceLT, Nat.reduceEqDiff, Int.reduceLT, Int.reduceLE, Int.reduceAdd, Int.reduceSub, Int.reduceMul, Int.reduceToNat, reduceIte, reduceCtorEq, Nat.reduceBEq, v68_1, hG, tbl, lw_twice]
  refine drun_call' ?_
  simp only [go_sem, Nat.reduceAdd, Nat.reduceSub, Nat.reduceLeDiff, Nat.reduceMul, Nat.reduceLT, Nat.reduceEqDiff, Int.reduceLT, Int.reduceLE, Int.reduceAdd, Int.reduceSub, Int.reduceMul, Int.reduceToNat, reduceIte, reduceCtorEq, Nat.reduceBEq, calV]
  refine least' hG A hA ?_
  refine drun_drive 40 (p := (_, _)) ?_
  simp only [go_sem, Nat.reduceAdd, Nat.reduceSub, Nat.reduceLeDiff, Nat.reduceMul, Nat.reduceLT, Nat.reduceEqDiff, Int.reduceLT, Int.reduceLE, Int.reduceAdd, Int.reduceSub, Int.reduceMul, Int.reduceToNat, reduceIte, reduceCtorEq, Nat.reduceBEq]
  refine drun_call' ?_
  simp only [go_sem, Nat.reduceAdd, Nat.reduceSub, Nat.reduceLeDiff, Nat.reduceMul, Nat.reduceLT, Nat.reduceEqDiff, Int.reduceLT, Int.reduceLE, Int.reduceAdd, Int.reduceSub, Int.reduceMul, Int.reduceToNat, reduceIte, reduceCtorEq, Nat.reduceBEq, calV]
  refine product' hG _ _ (mod_lt' A) tw_lt ?_
  rw [tw_wo, mmod]
  refine drun_drive 40 (p := (_, _)) ?_
  simp only [go_sem, Nat.reduceAdd, Nat.reduceSub, Nat.reduceLeDiff, Nat.reduceMul, Nat.reduceLT, Nat.reduceEqDiff, Int.reduceLT, Int.reduceLE, Int.reduceAdd, Int.reduceSub, Int.reduceMul, Int.reduceToNat, reduceIte, reduceCtorEq, Nat.reduceBEq]
  refine drun_end ?_
  have hwm : IntKind.i64.wrap ((n : Int) - 1) = (n : Int) - 1 := wrap_i64 (by omega) (by omega)
  refine run_drive 60 ?_
  simp only [go_sem, Nat.reduceAdd, Nat.reduceSub, Nat.reduceLeDiff, Nat.reduceMul, Nat.reduceLT, Nat.reduceEqDiff, Int.reduceLT, Int.reduceLE, Int.reduceAdd, Int.reduceSub, Int.reduceMul, Int.reduceToNat, reduceIte, reduceCtorEq, Nat.reduceBEq, v68_2, v68_3, v68_4, v68_14, hG, tbl, lw_once, hwm]
  have e0 : E % 2 ^ n / 2 ^ n = 0 := Nat.div_eq_of_lt (Nat.mod_lt _ (Nat.two_pow_pos n))
  have e1 : A ^ (E % 2 ^ n / 2 ^ n) * wo % ell = wo := by rw [e0, Nat.pow_zero, Nat.one_mul]; rfl
  refine run_rename [0, 1, 2, 3, 4] rfl (by simp) ?_ ?_ ?_ (power_loop hG A E n hE hn hQ n (Nat.le_refl n))
  · unfold ph; rw [e1]; simp only [go_sem, Nat.reduceAdd, Nat.reduceSub, Nat.reduceLeDiff, Nat.reduceMul, Nat.reduceLT, Nat.reduceEqDiff, Int.reduceLT, Int.reduceLE, Int.reduceAdd, Int.reduceSub, Int.reduceMul, Int.reduceToNat, reduceIte, reduceCtorEq, Nat.reduceBEq, hfit, ph, lc_fit, fit, ren, gmap, lw_plain, true_or, or_true]
  · simp [uniq, ph, wrB]
  · unfold pw; rw [e0]; simp only [go_sem, Nat.reduceAdd, Nat.reduceSub, Nat.reduceLeDiff, Nat.reduceMul, Nat.reduceLT, Nat.reduceEqDiff, Int.reduceLT, Int.reduceLE, Int.reduceAdd, Int.reduceSub, Int.reduceMul, Int.reduceToNat, reduceIte, reduceCtorEq, Nat.reduceBEq, fit, pw, ren, gmap, lw_plain, true_or, or_true]
theorem power' (hG : G 0 = tbl) (A E n : Nat) (hA : A < 115792089237316195423570985008687907853269984665640564039457584007913129639936) (hE : E < 115792089237316195423570985008687907853269984665640564039457584007913129639936) (hn : n ≤ 256) {h : Heap} {R : V → Heap → Prop} (hQ : R (lw (A ^ (E % 2 ^ n) % ell)) h) : VCall Tryd.prog G 68 [lw A, lw E, .int .i64 (n : Int)] h R := by
  refine vcall_plain (Q := fun v => v = lw (A ^ (E % 2 ^ n) % ell)) (power hG A E n hA hE hn _ ⟨rfl, rfl⟩) (fun g => by simp only [rens, ren, lw_plain]) ?_ ?_
  · rintro v g rfl; exact lw_plain _ g
  · rintro v rfl; exact hQ
theorem linv_ex : ∃ f : Nat → Nat, ∀ A, f A = A ^ (ell - 2) % ell := ⟨fun A => A ^ (ell - 2) % ell, fun _ => rfl⟩
noncomputable def linv : Nat → Nat := Classical.choose linv_ex
theorem linv_eq (A : Nat) : linv A = A ^ (ell - 2) % ell := Classical.choose_spec linv_ex A
theorem linv_lt (A : Nat) : linv A < ell := by rw [linv_eq]; exact mod_lt' _
theorem linv_mul {A : Nat} (h : A % ell ≠ 0) : linv A * A % ell = 1 := by
  rw [linv_eq, mmod]
  exact Pr.inv_pow Pr.p8 h
theorem linv_zero {A : Nat} (h : A % ell = 0) : linv A = 0 := by
  rw [linv_eq, Nat.pow_mod, h, Nat.zero_pow (by decide), Nat.zero_mod]
theorem linv_of {A x : Nat} (hx : x < ell) (h : x * A % ell = 1) : x = linv A := by
  have hA : A % ell ≠ 0 := by
    intro e
    rw [Nat.mul_mod, e, Nat.mul_zero, Nat.zero_mod] at h
    cases h
  have := Pr.inv_unique h (linv_mul hA)
  rw [Nat.mod_eq_of_lt hx, Nat.mod_eq_of_lt (linv_lt A)] at this
  exact this
theorem invert (hG : G 0 = tbl) (A : Nat) (hA : A < 115792089237316195423570985008687907853269984665640564039457584007913129639936) (Q : V → Heap → Prop) (hQ : Q (lw (linv A)) []) : VCall Tryd.prog G 30 [lw A] [] Q := by
  refine vcall_body Tryd.func30 nm30 code30 nt30 ?_
  refine run_drive 60 ?_
  simp only [go_sem, Nat.reduceAdd, Nat.reduceSub, Nat.reduceLeDiff, Nat.reduceMul, Nat.reduceLT, Nat.reduceEqDiff, Int.reduceLT, Int.reduceLE, Int.reduceAdd, Int.reduceSub, Int.reduceMul, Int.reduceToNat, reduceIte, reduceCtorEq, Nat.reduceBEq, v30, v30_0, v30_1, hG, tbl, lw_less]
  refine run_call' rfl ?_
  simp only [go_sem, Nat.reduceAdd, Nat.reduceSub, Nat.reduceLeDiff, Nat.reduceMul, Nat.reduceLT, Nat.reduceEqDiff, Int.reduceLT, Int.reduceLE, Int.reduceAdd, Int.reduceSub, Int.reduceMul, Int.reduceToNat, reduceIte, reduceCtorEq, Nat.reduceBEq, calV]
  refine power' hG A (ell - 2) 253 hA (by decide) (by decide) ?_
  refine run_drive 60 ?_
  simp only [go_sem, Nat.reduceAdd, Nat.reduceSub, Nat.reduceLeDiff, Nat.reduceMul, Nat.reduceLT, Nat.reduceEqDiff, Int.reduceLT, Int.reduceLE, Int.reduceAdd, Int.reduceSub, Int.reduceMul, Int.reduceToNat, reduceIte, reduceCtorEq, Nat.reduceBEq]
  refine run_ret_drop Tryd.func30 res30 [] (lw (linv A)) [] rfl (by simp) trivial (by simp [uniq]) ?_ hQ
  have e : A ^ ((ell - 2) % 2 ^ 253) % ell = linv A := by
    rw [linv_eq, Nat.mod_eq_of_lt (show ell - 2 < 2 ^ 253 by decide)]
  rw [e]
  simp only [go_sem, Nat.reduceAdd, Nat.reduceSub, Nat.reduceLeDiff, Nat.reduceMul, Nat.reduceLT, Nat.reduceEqDiff, Int.reduceLT, Int.reduceLE, Int.reduceAdd, Int.reduceSub, Int.reduceMul, Int.reduceToNat, reduceIte, reduceCtorEq, Nat.reduceBEq, rr30, lw_plain]
theorem invert' (hG : G 0 = tbl) (A : Nat) (hA : A < 115792089237316195423570985008687907853269984665640564039457584007913129639936) {h : Heap} {R : V → Heap → Prop} (hQ : R (lw (linv A)) h) : VCall Tryd.prog G 30 [lw A] h R := by
  refine vcall_plain (Q := fun v => v = lw (linv A)) (invert hG A hA _ ⟨rfl, rfl⟩) (fun g => by simp only [rens, ren, lw_plain]) ?_ ?_
  · rintro v g rfl; exact lw_plain _ g
  · rintro v rfl; exact hQ
theorem is_zero' (hG : G 0 = tbl) (A : Nat) (hA : A < 115792089237316195423570985008687907853269984665640564039457584007913129639936) {h : Heap} {R : V → Heap → Prop} (hQ : R (.bool (decide (A % ell = 0))) h) : VCall Tryd.prog G 24 [lw A] h R := by
  refine vcall_plain (Q := fun v => v = .bool (decide (A % ell = 0))) (is_zero hG A hA _ ⟨rfl, rfl⟩) (fun g => by simp only [rens, ren, lw_plain]) ?_ ?_
  · rintro v g rfl; rfl
  · rintro v rfl; exact hQ
theorem one' (A : Nat) {h : Heap} {R : V → Heap → Prop} (hQ : R (lw 1) h) : VCall Tryd.prog G 179 [lw A] h R := by
  refine vcall_plain (Q := fun v => v = lw 1) (one_ A _ ⟨rfl, rfl⟩) (fun g => by simp only [rens, ren, lw_plain]) ?_ ?_
  · rintro v g rfl; exact lw_plain _ g
  · rintro v rfl; exact hQ
theorem int' (n : Nat) (hn : n < 18446744073709551616) {h : Heap} {R : V → Heap → Prop} (hQ : R (lw n) h) : VCall Tryd.prog G 44 [.int .u64 (n : Int)] h R := by
  refine vcall_plain (Q := fun v => v = lw n) (int_ n hn _ ⟨rfl, rfl⟩) (fun g => by simp only [rens, ren]) ?_ ?_
  · rintro v g rfl; exact lw_plain _ g
  · rintro v rfl; exact hQ
end Go.Vs.Tryd
namespace Go.Vs
def row : Nat → (Nat → List V) → List V
  | 0, _ => []
  | n + 1, e => row n e ++ e n
def upd {α : Type} (e : Nat → α) (i : Nat) (c : α) : Nat → α := fun j => if j = i then c else e j
theorem upd_same {α : Type} (e : Nat → α) (i : Nat) (c : α) : upd e i c i = c := if_pos rfl
theorem upd_ne {α : Type} {e : Nat → α} {i j : Nat} {c : α} (h : j ≠ i) : upd e i c j = e j := if_neg h
theorem row_len {s : Nat} {e : Nat → List V} (hs : ∀ j, (e j).length = s) : ∀ n, (row n e).length = n * s
  | 0 => by simp [row]
  | n + 1 => by rw [row, List.length_append, row_len hs n, hs, Nat.succ_mul]
theorem row_congr {e e' : Nat → List V} : ∀ {n : Nat}, (∀ j, j < n → e j = e' j) → row n e = row n e'
  | 0, _ => rfl
  | n + 1, h => by rw [row, row, row_congr (n := n) fun j hj => h j (by omega), h n (Nat.lt_succ_self n)]
theorem row_get {s : Nat} {e : Nat → List V} (hs : ∀ j, (e j).length = s) (rest : List V) : ∀ {n i : Nat}, i < n → ((row n e ++ rest).drop (i * s)).take s = e i
  | 0, i, h => by omega
  | n + 1, i, h => by
    rw [row, List.append_assoc]
    by_cases hi : i = n
    · subst hi
      rw [List.drop_append_of_le_length (by rw [row_len hs]; exact Nat.le_refl _), List.drop_eq_nil_of_le (by rw [row_len hs]; exact Nat.le_refl _), List.nil_append]
      rw [List.take_append_of_le_length (by rw [hs]; exact Nat.le_refl _), List.take_of_length_le (by rw [hs]; exact Nat.le_refl _)]
    · exact row_get hs _ (by omega)
theorem row_get' {s : Nat} {e : Nat → List V} (hs : ∀ j, (e j).length = s) {n i : Nat} (h : i < n) : ((row n e).drop (i * s)).take s = e i := by
  have := row_get hs [] h
  rwa [List.append_nil] at this
theorem splice_append {a b cs : List V} {o : Nat} (h : o + cs.length ≤ a.length) : splice (a ++ b) o cs = splice a o cs ++ b := by
  unfold splice
  rw [List.take_append_of_le_length (by omega), List.drop_append_of_le_length (by omega), List.append_assoc, List.append_assoc, List.append_assoc]
theorem row_set {s : Nat} {e : Nat → List V} (hs : ∀ j, (e j).length = s) {cs : List V} (hc : cs.length = s) : ∀ {n i : Nat}, i < n → splice (row n e) (i * s) cs = row n (upd e i cs)
  | 0, i, h => by omega
  | n + 1, i, h => by
    by_cases hi : i = n
    · subst hi
      rw [row, row, upd_same]
      unfold splice
      rw [List.take_append_of_le_length (by rw [row_len hs]; exact Nat.le_refl _), List.take_of_length_le (by rw [row_len hs]; exact Nat.le_refl _)]
      rw [List.drop_eq_nil_of_le (by rw [List.length_append, row_len hs, hs, hc]; exact Nat.le_refl _), List.append_nil]
      congr 1
      exact row_congr fun j hj => (upd_ne (by omega)).symm
    · have : (i + 1) * s ≤ n * s := Nat.mul_le_mul_right s (by omega)
      rw [Nat.succ_mul] at this
      rw [row, row, upd_ne (fun e => hi e.symm), splice_append (by rw [row_len hs, hc]; exact this), row_set hs hc (by omega)]
theorem row_all {p : V → Bool} {e : Nat → List V} (h : ∀ j, (e j).all p = true) : ∀ n, (row n e).all p = true
  | 0 => rfl
  | n + 1 => by rw [row, List.all_append, row_all h n, h]; rfl
theorem row_rens {g : Nat → Nat} {e : Nat → List V} (h : ∀ j, rens g (e j) = e j) : ∀ n, rens g (row n e) = row n e
  | 0 => rfl
  | n + 1 => by rw [row, rens_append, row_rens h n, h]
theorem row_zero (z : List V) : ∀ n, (List.replicate n z).flatten = row n fun _ => z
  | 0 => rfl
  | n + 1 => by rw [row, ← row_zero z n, List.replicate_succ', List.flatten_concat]
theorem fit_rens (g : Nat → Nat) : ∀ l : List V, fit g l (rens g l)
  | [] => trivial
  | v :: l => ⟨.inr rfl, fit_rens g l⟩
theorem fit_same {g : Nat → Nat} {l : List V} (h : rens g l = l) : fit g l l := by
  have := fit_rens g l
  rwa [h] at this
theorem row_in {s n i : Nat} (h : i < n) : i * s + s ≤ n * s := by
  have : (i + 1) * s ≤ n * s := Nat.mul_le_mul_right s (by omega)
  rwa [Nat.succ_mul] at this
end Go.Vs
namespace Go.Vs.Tryd
open Go.Proofs
variable {G : Nat → List V}
set_option linter.unusedSimpArgs false
attribute [local go_sem] lenO_nils lenO_sl sliceAtV Int.sub_zero List.length_append List.all_append ge_iff_le gt_iff_lt Int.natCast_nonneg Int.toNat_natCast Nat.mul_one b_and_ll b_shr_ll b_mul_ll b_add_ll b_or_ll b_shl_ll pick_ll pick_lc pick_bb driveS stopV Option.isSome_some Option.isSome_none Kind.m Kind.w Kind.g look_ro look_rw look_grow drive stepV exo expo evs fillV isNil nilKind eqV eqL optA optM sliceAtV ev kn ldc stc splice appV srcV lenV setd wantV exitV rvs rv one List.length_cons List.length_nil List.cons_append List.nil_append List.append_nil List.replicate List.getD_cons_zero List.getD_cons_succ List.set_cons_zero List.set_cons_succ List.getElem?_cons_zero List.getElem?_cons_succ List.getElem?_nil List.take_succ_cons List.take_zero List.take_nil List.drop_succ_cons List.drop_zero List.drop_nil List.all_cons List.all_nil List.any_cons List.any_nil Bool.and_true Bool.true_and Bool.and_self Option.map_some Option.map_none Option.bind_some Option.some.injEq Nat.add_zero Nat.zero_add Int.toNat_zero Int.toNat_one Int.zero_add Int.add_zero if_true if_false ite_true ite_false and_true true_and and_self ne_eq not_false_eq_true not_true_eq_false decide_true decide_false Bool.false_eq_true Bool.not_true Bool.not_false beq_self_eq_true BEq.rfl Bool.not_eq_true Nat.le_refl Int.le_refl Nat.zero_le List.foldl List.map_cons List.map_nil Prod.mk.injEq Int.cast_ofNat_Int Int.zero_le_ofNat b_add_cc b_add_cl b_add_lc b_mul_cc b_mul_cl b_mul_lc b_sub_cc b_sub_cl b_sub_lc b_and_cc b_and_cl b_and_lc b_or_cc b_or_cl b_or_lc b_xor_cc b_xor_cl b_xor_lc b_andNot_cc b_andNot_cl b_andNot_lc b_shr_cc b_shr_cl b_shr_lc b_shl_cc b_shl_cl b_shl_lc b_lss b_leq b_gtr b_geq b_add_i b_sub_i b_mul_i beq_cc beq_cl beq_lc beq_ll b_quo_i b_rem_i neg_u64 wrap_i64 driveD stepD idsAt idOf maskH_nil restore_nil restore_mask List.filterMap_nil List.filterMap_cons VOp.looks VOp.makes exA cells_agg cells_int cells_bool cells_str cells_nilp cells_ptr cells_glob cells_nils cells_sl cells_nilf cells_fn cells_nili cells_ifc known_agg known_tup known_int known_bool known_str known_nilp known_ptr known_glob known_nils known_sl known_nilf known_fn known_nili known_ifc known_unk one_agg one_tup one_int one_bool one_str one_nilp one_ptr one_glob one_nils one_sl one_nilf one_fn one_nili one_ifc asK_int asN_int asB_bool asS_str asG_agg asT_tup
section
attribute [local go_sem ↓] lc_len lc_take lc_drop lc_known lc_one lc_rens lc_cells lw_known lw_agg lw_asG
set_option maxRecDepth 100000
set_option maxHeartbeats 1000000
theorem m_one : methV Tryd.prog 27 "One" = some 179 := by kernel_rfl
theorem m_zero : methV Tryd.prog 27 "IsZero" = some 24 := by kernel_rfl
theorem m_mul : methV Tryd.prog 27 "Mul" = some 29 := by kernel_rfl
theorem m_inv : methV Tryd.prog 27 "Invert" = some 30 := by kernel_rfl
theorem lc4 (f : Nat → Nat) (j : Nat) : (lc (f j)).length = 4 := rfl
theorem lcr (f : Nat → Nat) (g : Nat → Nat) (j : Nat) : rens g (lc (f j)) = lc (f j) := lc_rens _ g
def scs (n : Nat) (f : Nat → Nat) : List V := row n fun j => lc (f j)
theorem scs_len (n : Nat) (f : Nat → Nat) : (scs n f).length = n * 4 := row_len (lc4 f) n
theorem scs_get (n : Nat) (f : Nat → Nat) (rest : List V) {i : Nat} (h : i < n) : ((scs n f ++ rest).drop (i * 4)).take 4 = lc (f i) := row_get (lc4 f) rest h
theorem scs_get' (n : Nat) (f : Nat → Nat) {i : Nat} (h : i < n) : ((scs n f).drop (i * 4)).take 4 = lc (f i) := row_get' (lc4 f) h
theorem scs_set (n : Nat) (f f' : Nat → Nat) {i v : Nat} (h : i < n) (hv : f' i = v) (hf : ∀ j, j < n → j ≠ i → f j = f' j) : (scs n f).take (i * 4) ++ lc v ++ (scs n f).drop (i * 4 + 4) = scs n f' := by
  show splice (scs n f) (i * 4) (lc v) = _
  unfold scs
  rw [row_set (lc4 f) rfl h]
  refine row_congr fun j hj => ?_
  by_cases e : j = i
  · subst e; rw [upd_same, hv]
  · rw [upd_ne e, hf j hj e]
theorem scs_congr {n : Nat} {f f' : Nat → Nat} (h : ∀ j, j < n → f j = f' j) : scs n f = scs n f' := row_congr fun j hj => by rw [h j hj]
theorem scs_zero (n : Nat) : (List.replicate n [V.int .u64 (nl 0), V.int .u64 (nl 0), V.int .u64 (nl 0), V.int .u64 (nl 0)]).flatten = scs n fun _ => 0 := (row_zero _ n).trans (row_congr fun _ _ => lc_zero)
theorem scs_known (n : Nat) (f : Nat → Nat) : (scs n f).all V.known = true := row_all (fun j => lc_known _) n
theorem scs_one (n : Nat) (f : Nat → Nat) : (scs n f).all V.one = true := row_all (fun j => lc_one _) n
theorem scs_rens (n : Nat) (f g : Nat → Nat) : rens g (scs n f) = scs n f := row_rens (lcr f g) n
theorem scs_fit (n : Nat) (f g : Nat → Nat) : fit g (scs n f) (scs n f) := fit_same (scs_rens n f g)
theorem scs_in (n : Nat) (f : Nat → Nat) {i : Nat} (h : i < n) : (i * 4 + 4 ≤ (scs n f).length) = True := eq_true (by rw [scs_len]; exact row_in h)
def pf (f : Nat → Nat) : Nat → Nat
  | 0 => 1
  | i + 1 => if f i % ell = 0 then pf f i else pf f i * f i % ell
theorem pf_lt (f : Nat → Nat) : ∀ i, pf f i < ell
  | 0 => show 1 < ell by decide
  | i + 1 => by
    unfold pf
    split
    · exact pf_lt f i
    · exact mod_lt' _
theorem pf_ne (f : Nat → Nat) : ∀ i, pf f i % ell ≠ 0
  | 0 => show 1 % ell ≠ 0 by decide
  | i + 1 => by
    unfold pf
    split
    · exact pf_ne f i
    · rename_i h
      intro e
      rw [Nat.mod_mod] at e
      rcases Pr.mul_zero_mod Pr.p8 e with h1 | h1
      · exact pf_ne f i h1
      · exact h h1
theorem linv_prod (x y : Nat) : linv (x * y % ell) = linv x * linv y % ell := by
  rw [linv_eq, linv_eq, linv_eq, ← Nat.pow_mod, Nat.mul_pow, Nat.mul_mod]
theorem inv_one {P A : Nat} (hP : P % ell ≠ 0) : P * linv (P * A % ell) % ell = linv A := by
  rw [linv_prod, mmod', ← Nat.mul_assoc, ← mmod, Nat.mul_comm P, linv_mul hP, Nat.one_mul, Nat.mod_eq_of_lt (linv_lt A)]
theorem inv_left {P A : Nat} (hA : A % ell ≠ 0) : linv (P * A % ell) * A % ell = linv P := by
  rw [linv_prod, mmod, Nat.mul_assoc, ← mmod', linv_mul hA, Nat.mul_one, Nat.mod_eq_of_lt (linv_lt P)]
def ia1 (n : Nat) (cap : Cap) (i : Nat) : List V := [.sl 0 0 n cap, .unk, .nils, .sl 1 0 n (.exact n), .ptr 2 0] ++ List.replicate 16 .unk ++ [.sl 0 0 n cap, .int .i64 n, .int .i64 i] ++ List.replicate 55 .unk
def ih1 (f : Nat → Nat) (rest : List V) (n i : Nat) : Heap := [some ⟨.ro, scs n f ++ rest⟩, some ⟨.rw, scs n fun j => if j < i then pf f j else 0⟩, some ⟨.rw, lc (pf f i)⟩]
def ia2 (n : Nat) (cap : Cap) (m : Nat) : List V := [.sl 0 0 n cap, .unk, .nils, .sl 1 0 n (.exact n), .unk, .unk, .unk, .ptr 2 0, .int .i64 ((m : Int) - 1)] ++ List.replicate 70 .unk
noncomputable def ih2 (f : Nat → Nat) (rest : List V) (n m : Nat) : Heap := [some ⟨.ro, scs n f ++ rest⟩, some ⟨.rw, scs n fun j => if j < m then pf f j else linv (f j)⟩, some ⟨.rw, lc (linv (pf f m))⟩]
theorem inv_loop1 (hG : G 0 = tbl) (f : Nat → Nat) (hf : ∀ j, f j < 115792089237316195423570985008687907853269984665640564039457584007913129639936) (rest : List V) (hrest : ∀ g, rens g rest = rest) (n : Nat) (hn : n < 1000000) (cap : Cap) {Q : V → Heap → Prop} {K : List TI}
    (hK : Run Tryd.prog G 42 1 Q (K, ⟨ia1 n cap n, ih1 f rest n n⟩)) : ∀ k i, i + k = n → Run Tryd.prog G 42 1 Q (.l v42_13 :: .b 0 :: K, ⟨ia1 n cap i, ih1 f rest n i⟩)
  | 0, i, h => by
    obtain rfl : i = n := by omega
    unfold ia1 ih1
    have h0 : ((i : Int) < (i : Int)) = False := eq_false (by omega)
    have hft : ∀ g, fit g (scs i f ++ rest) (scs i f ++ rest) := fun g => fit_same (by rw [rens_append, scs_rens, hrest])
    refine run_loop_eq v42_13.eq_1 ?_
    refine run_driveS 80 ?_
    simp only [go_sem, Nat.reduceAdd, Nat.reduceSub, Nat.reduceLeDiff, Nat.reduceMul, Nat.reduceLT, Nat.reduceEqDiff, Int.reduceLT, Int.reduceLE, Int.reduceAdd, Int.reduceSub, Int.reduceMul, Int.reduceToNat, reduceIte, reduceCtorEq, Nat.reduceBEq, v42_6, h0]
    refine run_exit rfl ?_
    refine run_rename [0, 1, 2] rfl (by simp) ?_ ?_ ?_ hK
    · unfold ih1
      simp only [go_sem, Nat.reduceAdd, Nat.reduceSub, Nat.reduceLeDiff, Nat.reduceMul, Nat.reduceLT, Nat.reduceEqDiff, Int.reduceLT, Int.reduceLE, Int.reduceAdd, Int.reduceSub, Int.reduceMul, Int.reduceToNat, reduceIte, reduceCtorEq, Nat.reduceBEq, hfit, lc_fit, scs_fit, fit, ren, gmap, lw_plain, true_or, or_true, hft]
    · simp [uniq, ih1, wrB]
    · unfold ia1; simp only [go_sem, Nat.reduceAdd, Nat.reduceSub, Nat.reduceLeDiff, Nat.reduceMul, Nat.reduceLT, Nat.reduceEqDiff, Int.reduceLT, Int.reduceLE, Int.reduceAdd, Int.reduceSub, Int.reduceMul, Int.reduceToNat, reduceIte, reduceCtorEq, Nat.reduceBEq, fit, ren, gmap, lw_plain, true_or, or_true]
  | k + 1, i, h => by
    have ih := inv_loop1 hG f hf rest hrest n hn cap hK k (i + 1) (by omega)
    unfold ia1 ih1
    have h0 : ((i : Int) < (n : Int)) = True := eq_true (by omega)
    have hg := scs_get n f rest (i := i) (by omega)
    have hin := scs_in n (fun j => if j < i then pf f j else 0) (i := i) (by omega)
    have hset := scs_set n (fun j => if j < i then pf f j else 0) (fun j => if j < i + 1 then pf f j else 0) (i := i) (v := pf f i) (by omega) (by rw [if_pos (by omega)]) (fun j _ hj => by by_cases h1 : j < i <;> simp [h1] <;> omega)
    have hw : IntKind.i64.wrap ((i : Int) + 1) = ((i + 1 : Nat) : Int) := by rw [wrap_i64 (by omega) (by omega)]; omega
    have hft : ∀ g, fit g (scs n f ++ rest) (scs n f ++ rest) := fun g => fit_same (by rw [rens_append, scs_rens, hrest])
    refine run_loop_eq v42_13.eq_1 ?_
    refine run_driveS 80 ?_
    simp only [go_sem, Nat.reduceAdd, Nat.reduceSub, Nat.reduceLeDiff, Nat.reduceMul, Nat.reduceLT, Nat.reduceEqDiff, Int.reduceLT, Int.reduceLE, Int.reduceAdd, Int.reduceSub, Int.reduceMul, Int.reduceToNat, reduceIte, reduceCtorEq, Nat.reduceBEq, v42_6, v42_11, v42_7, v42_8, v42_9, h0, hg, hin, hset]
    refine run_call' rfl ?_
    simp only [go_sem, Nat.reduceAdd, Nat.reduceSub, Nat.reduceLeDiff, Nat.reduceMul, Nat.reduceLT, Nat.reduceEqDiff, Int.reduceLT, Int.reduceLE, Int.reduceAdd, Int.reduceSub, Int.reduceMul, Int.reduceToNat, reduceIte, reduceCtorEq, Nat.reduceBEq, calV, m_zero]
    refine is_zero' hG _ (hf i) ?_
    refine run_driveS 80 ?_
    simp only [go_sem, Nat.reduceAdd, Nat.reduceSub, Nat.reduceLeDiff, Nat.reduceMul, Nat.reduceLT, Nat.reduceEqDiff, Int.reduceLT, Int.reduceLE, Int.reduceAdd, Int.reduceSub, Int.reduceMul, Int.reduceToNat, reduceIte, reduceCtorEq, Nat.reduceBEq]
    by_cases hz : f i % ell = 0
    · refine run_cond_f (by simp only [go_sem, Nat.reduceAdd, Nat.reduceSub, Nat.reduceLeDiff, Nat.reduceMul, Nat.reduceLT, Nat.reduceEqDiff, Int.reduceLT, Int.reduceLE, Int.reduceAdd, Int.reduceSub, Int.reduceMul, Int.reduceToNat, reduceIte, reduceCtorEq, Nat.reduceBEq, decide_eq_true hz]) ?_
      refine run_driveS 80 ?_
      simp only [go_sem, Nat.reduceAdd, Nat.reduceSub, Nat.reduceLeDiff, Nat.reduceMul, Nat.reduceLT, Nat.reduceEqDiff, Int.reduceLT, Int.reduceLE, Int.reduceAdd, Int.reduceSub, Int.reduceMul, Int.reduceToNat, reduceIte, reduceCtorEq, Nat.reduceBEq, v42_12, hw]
      have e : pf f (i + 1) = pf f i := if_pos hz
      refine run_rename [0, 1, 2] rfl (by simp) ?_ ?_ ?_ ih
      · unfold ih1; rw [e]
        simp only [go_sem, Nat.reduceAdd, Nat.reduceSub, Nat.reduceLeDiff, Nat.reduceMul, Nat.reduceLT, Nat.reduceEqDiff, Int.reduceLT, Int.reduceLE, Int.reduceAdd, Int.reduceSub, Int.reduceMul, Int.reduceToNat, reduceIte, reduceCtorEq, Nat.reduceBEq, hfit, lc_fit, scs_fit, fit, ren, gmap, lw_plain, true_or, or_true, hft]
      · simp [uniq, ih1, wrB]
      · unfold ia1; simp only [go_sem, Nat.reduceAdd, Nat.reduceSub, Nat.reduceLeDiff, Nat.reduceMul, Nat.reduceLT, Nat.reduceEqDiff, Int.reduceLT, Int.reduceLE, Int.reduceAdd, Int.reduceSub, Int.reduceMul, Int.reduceToNat, reduceIte, reduceCtorEq, Nat.reduceBEq, fit, ren, gmap, lw_plain, true_or, or_true]
    · refine run_cond_t (by simp only [go_sem, Nat.reduceAdd, Nat.reduceSub, Nat.reduceLeDiff, Nat.reduceMul, Nat.reduceLT, Nat.reduceEqDiff, Int.reduceLT, Int.reduceLE, Int.reduceAdd, Int.reduceSub, Int.reduceMul, Int.reduceToNat, reduceIte, reduceCtorEq, Nat.reduceBEq, decide_eq_false hz]) ?_
      refine run_driveS 80 ?_
      simp only [go_sem, Nat.reduceAdd, Nat.reduceSub, Nat.reduceLeDiff, Nat.reduceMul, Nat.reduceLT, Nat.reduceEqDiff, Int.reduceLT, Int.reduceLE, Int.reduceAdd, Int.reduceSub, Int.reduceMul, Int.reduceToNat, reduceIte, reduceCtorEq, Nat.reduceBEq, v42_10]
      refine run_call' rfl ?_
      simp only [go_sem, Nat.reduceAdd, Nat.reduceSub, Nat.reduceLeDiff, Nat.reduceMul, Nat.reduceLT, Nat.reduceEqDiff, Int.reduceLT, Int.reduceLE, Int.reduceAdd, Int.reduceSub, Int.reduceMul, Int.reduceToNat, reduceIte, reduceCtorEq, Nat.reduceBEq, calV, m_mul]
      refine mul' hG _ _ (Nat.lt_trans (pf_lt f i) ell_lt) (hf i) ?_
      refine run_driveS 80 ?_
      simp only [go_sem, Nat.reduceAdd, Nat.reduceSub, Nat.reduceLeDiff, Nat.reduceMul, Nat.reduceLT, Nat.reduceEqDiff, Int.reduceLT, Int.reduceLE, Int.reduceAdd, Int.reduceSub, Int.reduceMul, Int.reduceToNat, reduceIte, reduceCtorEq, Nat.reduceBEq, v42_12, hw]
      have e : pf f (i + 1) = pf f i * f i % ell := if_neg hz
      rw [← e]
      refine run_rename [0, 1, 2] rfl (by simp) ?_ ?_ ?_ ih
      · unfold ih1
        simp only [go_sem, Nat.reduceAdd, Nat.reduceSub, Nat.reduceLeDiff, Nat.reduceMul, Nat.reduceLT, Nat.reduceEqDiff, Int.reduceLT, Int.reduceLE, Int.reduceAdd, Int.reduceSub, Int.reduceMul, Int.reduceToNat, reduceIte, reduceCtorEq, Nat.reduceBEq, hfit, lc_fit, scs_fit, fit, ren, gmap, lw_plain, true_or, or_true, hft]
      · simp [uniq, ih1, wrB]
      · unfold ia1; simp only [go_sem, Nat.reduceAdd, Nat.reduceSub, Nat.reduceLeDiff, Nat.reduceMul, Nat.reduceLT, Nat.reduceEqDiff, Int.reduceLT, Int.reduceLE, Int.reduceAdd, Int.reduceSub, Int.reduceMul, Int.reduceToNat, reduceIte, reduceCtorEq, Nat.reduceBEq, fit, ren, gmap, lw_plain, true_or, or_true]
theorem inv_loop2 (hG : G 0 = tbl) (f : Nat → Nat) (hf : ∀ j, f j < 115792089237316195423570985008687907853269984665640564039457584007913129639936) (rest : List V) (hrest : ∀ g, rens g rest = rest) (n : Nat) (hn : n < 1000000) (cap : Cap) {Q : V → Heap → Prop} {K : List TI}
    (hK : Run Tryd.prog G 42 1 Q (K, ⟨ia2 n cap 0, ih2 f rest n 0⟩)) : ∀ m, m ≤ n → Run Tryd.prog G 42 1 Q (.l v42_25 :: .b 2 :: K, ⟨ia2 n cap m, ih2 f rest n m⟩)
  | 0, h => by
    unfold ia2 ih2
    have hft : ∀ g, fit g (scs n f ++ rest) (scs n f ++ rest) := fun g => fit_same (by rw [rens_append, scs_rens, hrest])
    refine run_loop_eq v42_25.eq_1 ?_
    refine run_driveS 80 ?_
    simp only [go_sem, Nat.reduceAdd, Nat.reduceSub, Nat.reduceLeDiff, Nat.reduceMul, Nat.reduceLT, Nat.reduceEqDiff, Int.reduceLT, Int.reduceLE, Int.reduceAdd, Int.reduceSub, Int.reduceMul, Int.reduceToNat, reduceIte, reduceCtorEq, Nat.reduceBEq, v42_17]
    refine run_exit rfl ?_
    refine run_rename [0, 1, 2] rfl (by simp) ?_ ?_ ?_ hK
    · unfold ih2
      simp only [go_sem, Nat.reduceAdd, Nat.reduceSub, Nat.reduceLeDiff, Nat.reduceMul, Nat.reduceLT, Nat.reduceEqDiff, Int.reduceLT, Int.reduceLE, Int.reduceAdd, Int.reduceSub, Int.reduceMul, Int.reduceToNat, reduceIte, reduceCtorEq, Nat.reduceBEq, hfit, lc_fit, scs_fit, fit, ren, gmap, lw_plain, true_or, or_true, hft]
    · simp [uniq, ih2, wrB]
    · unfold ia2; simp only [go_sem, Nat.reduceAdd, Nat.reduceSub, Nat.reduceLeDiff, Nat.reduceMul, Nat.reduceLT, Nat.reduceEqDiff, Int.reduceLT, Int.reduceLE, Int.reduceAdd, Int.reduceSub, Int.reduceMul, Int.reduceToNat, reduceIte, reduceCtorEq, Nat.reduceBEq, fit, ren, gmap, lw_plain, true_or, or_true]
  | m + 1, h => by
    have ih := inv_loop2 hG f hf rest hrest n hn cap hK m (by omega)
    unfold ia2 ih2
    rw [show ((m + 1 : Nat) : Int) - 1 = (m : Int) by omega]
    have h0 : ((m : Int) < (n : Int)) = True := eq_true (by omega)
    have hg := scs_get n f rest (i := m) (by omega)
    have hg2 := scs_get' n (fun j => if j < m + 1 then pf f j else linv (f j)) (i := m) (by omega)
    rw [if_pos (by omega)] at hg2
    have hin := scs_in n (fun j => if j < m + 1 then pf f j else linv (f j)) (i := m) (by omega)
    have hset := scs_set n (fun j => if j < m + 1 then pf f j else linv (f j)) (fun j => if j < m then pf f j else linv (f j)) (i := m) (v := linv (f m)) (by omega) (by rw [if_neg (by omega)]) (fun j _ hj => by by_cases h1 : j < m + 1 <;> simp [h1] <;> omega)
    have hw : IntKind.i64.wrap ((m : Int) - 1) = (m : Int) - 1 := wrap_i64 (by omega) (by omega)
    have hft : ∀ g, fit g (scs n f ++ rest) (scs n f ++ rest) := fun g => fit_same (by rw [rens_append, scs_rens, hrest])
    refine run_loop_eq v42_25.eq_1 ?_
    refine run_driveS 80 ?_
    simp only [go_sem, Nat.reduceAdd, Nat.reduceSub, Nat.reduceLeDiff, Nat.reduceMul, Nat.reduceLT, Nat.reduceEqDiff, Int.reduceLT, Int.reduceLE, Int.reduceAdd, Int.reduceSub, Int.reduceMul, Int.reduceToNat, reduceIte, reduceCtorEq, Nat.reduceBEq, v42_17, v42_23, v42_18, h0, hg]
    refine run_call' rfl ?_
    simp only [go_sem, Nat.reduceAdd, Nat.reduceSub, Nat.reduceLeDiff, Nat.reduceMul, Nat.reduceLT, Nat.reduceEqDiff, Int.reduceLT, Int.reduceLE, Int.reduceAdd, Int.reduceSub, Int.reduceMul, Int.reduceToNat, reduceIte, reduceCtorEq, Nat.reduceBEq, calV, m_zero]
    refine is_zero' hG _ (hf m) ?_
    refine run_driveS 80 ?_
    simp only [go_sem, Nat.reduceAdd, Nat.reduceSub, Nat.reduceLeDiff, Nat.reduceMul, Nat.reduceLT, Nat.reduceEqDiff, Int.reduceLT, Int.reduceLE, Int.reduceAdd, Int.reduceSub, Int.reduceMul, Int.reduceToNat, reduceIte, reduceCtorEq, Nat.reduceBEq]
    by_cases hz : f m % ell = 0
    · refine run_cond_t (by simp only [go_sem, Nat.reduceAdd, Nat.reduceSub, Nat.reduceLeDiff, Nat.reduceMul, Nat.reduceLT, Nat.reduceEqDiff, Int.reduceLT, Int.reduceLE, Int.reduceAdd, Int.reduceSub, Int.reduceMul, Int.reduceToNat, reduceIte, reduceCtorEq, Nat.reduceBEq, decide_eq_true hz]) ?_
      have e : pf f (m + 1) = pf f m := if_pos hz
      rw [linv_zero hz] at hset
      refine run_driveS 80 ?_
      simp only [go_sem, Nat.reduceAdd, Nat.reduceSub, Nat.reduceLeDiff, Nat.reduceMul, Nat.reduceLT, Nat.reduceEqDiff, Int.reduceLT, Int.reduceLE, Int.reduceAdd, Int.reduceSub, Int.reduceMul, Int.reduceToNat, reduceIte, reduceCtorEq, Nat.reduceBEq, v42_19, v42_20, h0, hin, lc_zero, hset]
      refine run_exit rfl ?_
      refine run_driveS 80 ?_
      simp only [go_sem, Nat.reduceAdd, Nat.reduceSub, Nat.reduceLeDiff, Nat.reduceMul, Nat.reduceLT, Nat.reduceEqDiff, Int.reduceLT, Int.reduceLE, Int.reduceAdd, Int.reduceSub, Int.reduceMul, Int.reduceToNat, reduceIte, reduceCtorEq, Nat.reduceBEq, v42_24, hw]
      rw [e]
      refine run_rename [0, 1, 2] rfl (by simp) ?_ ?_ ?_ ih
      · unfold ih2
        simp only [go_sem, Nat.reduceAdd, Nat.reduceSub, Nat.reduceLeDiff, Nat.reduceMul, Nat.reduceLT, Nat.reduceEqDiff, Int.reduceLT, Int.reduceLE, Int.reduceAdd, Int.reduceSub, Int.reduceMul, Int.reduceToNat, reduceIte, reduceCtorEq, Nat.reduceBEq, hfit, lc_fit, scs_fit, fit, ren, gmap, lw_plain, true_or, or_true, hft]
      · simp [uniq, ih2, wrB]
      · unfold ia2
        simp only [go_sem, Nat.reduceAdd, Nat.reduceSub, Nat.reduceLeDiff, Nat.reduceMul, Nat.reduceLT, Nat.reduceEqDiff, Int.reduceLT, Int.reduceLE, Int.reduceAdd, Int.reduceSub, Int.reduceMul, Int.reduceToNat, reduceIte, reduceCtorEq, Nat.reduceBEq, hfit, lc_fit, scs_fit, fit, ren, gmap, lw_plain, true_or, or_true]
    · refine run_cond_f (by simp only [go_sem, Nat.reduceAdd, Nat.reduceSub, Nat.reduceLeDiff, Nat.reduceMul, Nat.reduceLT, Nat.reduceEqDiff, Int.reduceLT, Int.reduceLE, Int.reduceAdd, Int.reduceSub, Int.reduceMul, Int.reduceToNat, reduceIte, reduceCtorEq, Nat.reduceBEq, decide_eq_false hz]) ?_
      refine run_driveS 80 ?_
      simp only [go_sem, Nat.reduceAdd, Nat.reduceSub, Nat.reduceLeDiff, Nat.reduceMul, Nat.reduceLT, Nat.reduceEqDiff, Int.reduceLT, Int.reduceLE, Int.reduceAdd, Int.reduceSub, Int.reduceMul, Int.reduceToNat, reduceIte, reduceCtorEq, Nat.reduceBEq]
      have e : pf f (m + 1) = pf f m * f m % ell := if_neg hz
      refine run_drw (by kernel_rfl) ?_
      refine drun_drive 40 (p := (_, _)) ?_
      simp only [go_sem, Nat.reduceAdd, Nat.reduceSub, Nat.reduceLeDiff, Nat.reduceMul, Nat.reduceLT, Nat.reduceEqDiff, Int.reduceLT, Int.reduceLE, Int.reduceAdd, Int.reduceSub, Int.reduceMul, Int.reduceToNat, reduceIte, reduceCtorEq, Nat.reduceBEq, v42_21, h0, hg2]
      refine drun_call' ?_
      simp only [go_sem, Nat.reduceAdd, Nat.reduceSub, Nat.reduceLeDiff, Nat.reduceMul, Nat.reduceLT, Nat.reduceEqDiff, Int.reduceLT, Int.reduceLE, Int.reduceAdd, Int.reduceSub, Int.reduceMul, Int.reduceToNat, reduceIte, reduceCtorEq, Nat.reduceBEq, calV, m_mul]
      refine mul' hG _ _ (Nat.lt_trans (pf_lt f m) ell_lt) (Nat.lt_trans (linv_lt _) ell_lt) ?_
      rw [e, inv_one (pf_ne f m)]
      refine drun_drive 40 (p := (_, _)) ?_
      simp only [go_sem, Nat.reduceAdd, Nat.reduceSub, Nat.reduceLeDiff, Nat.reduceMul, Nat.reduceLT, Nat.reduceEqDiff, Int.reduceLT, Int.reduceLE, Int.reduceAdd, Int.reduceSub, Int.reduceMul, Int.reduceToNat, reduceIte, reduceCtorEq, Nat.reduceBEq, hin, hset, h0]
      refine drun_end ?_
      refine run_drw (by kernel_rfl) ?_
      refine drun_drive 40 (p := (_, _)) ?_
      simp only [go_sem, Nat.reduceAdd, Nat.reduceSub, Nat.reduceLeDiff, Nat.reduceMul, Nat.reduceLT, Nat.reduceEqDiff, Int.reduceLT, Int.reduceLE, Int.reduceAdd, Int.reduceSub, Int.reduceMul, Int.reduceToNat, reduceIte, reduceCtorEq, Nat.reduceBEq, v42_22, h0, hg]
      refine drun_call' ?_
      simp only [go_sem, Nat.reduceAdd, Nat.reduceSub, Nat.reduceLeDiff, Nat.reduceMul, Nat.reduceLT, Nat.reduceEqDiff, Int.reduceLT, Int.reduceLE, Int.reduceAdd, Int.reduceSub, Int.reduceMul, Int.reduceToNat, reduceIte, reduceCtorEq, Nat.reduceBEq, calV, m_mul]
      refine mul' hG _ _ (Nat.lt_trans (linv_lt _) ell_lt) (hf m) ?_
      rw [inv_left hz]
      refine drun_drive 40 (p := (_, _)) ?_
      simp only [go_sem, Nat.reduceAdd, Nat.reduceSub, Nat.reduceLeDiff, Nat.reduceMul, Nat.reduceLT, Nat.reduceEqDiff, Int.reduceLT, Int.reduceLE, Int.reduceAdd, Int.reduceSub, Int.reduceMul, Int.reduceToNat, reduceIte, reduceCtorEq, Nat.reduceBEq]
      refine drun_end ?_
      refine run_driveS 80 ?_
      simp only [go_sem, Nat.reduceAdd, Nat.reduceSub, Nat.reduceLeDiff, Nat.reduceMul, Nat.reduceLT, Nat.reduceEqDiff, Int.reduceLT, Int.reduceLE, Int.reduceAdd, Int.reduceSub, Int.reduceMul, Int.reduceToNat, reduceIte, reduceCtorEq, Nat.reduceBEq, v42_24, hw]
      refine run_rename [0, 1, 2] rfl (by simp) ?_ ?_ ?_ ih
      · unfold ih2
        simp only [go_sem, Nat.reduceAdd, Nat.reduceSub, Nat.reduceLeDiff, Nat.reduceMul, Nat.reduceLT, Nat.reduceEqDiff, Int.reduceLT, Int.reduceLE, Int.reduceAdd, Int.reduceSub, Int.reduceMul, Int.reduceToNat, reduceIte, reduceCtorEq, Nat.reduceBEq, hfit, lc_fit, scs_fit, fit, ren, gmap, lw_plain, true_or, or_true, hft]
      · simp [uniq, ih2, wrB]
      · unfold ia2
        simp only [go_sem, Nat.reduceAdd, Nat.reduceSub, Nat.reduceLeDiff, Nat.reduceMul, Nat.reduceLT, Nat.reduceEqDiff, Int.reduceLT, Int.reduceLE, Int.reduceAdd, Int.reduceSub, Int.reduceMul, Int.reduceToNat, reduceIte, reduceCtorEq, Nat.reduceBEq, hfit, lc_fit, scs_fit, fit, ren, gmap, lw_plain, true_or, or_true]
theorem invert_all (hG : G 0 = tbl) (f : Nat → Nat) (hf : ∀ j, f j < 115792089237316195423570985008687907853269984665640564039457584007913129639936) (rest : List V) (hrest : ∀ g, rens g rest = rest) (n : Nat) (hn : n < 1000000) (cap : Cap) (Q : V → Heap → Prop)
    (hQ0 : n = 0 → Q .nils [some ⟨.ro, scs n f ++ rest⟩]) (hQ : 0 < n → Q (.sl 1 0 n (.exact n)) [some ⟨.ro, scs n f ++ rest⟩, some ⟨.rw, scs n fun j => linv (f j)⟩]) : VCall Tryd.prog G 42 [.sl 0 0 n cap] [some ⟨.ro, scs n f ++ rest⟩] Q := by
  refine vcall_body Tryd.func42 nm42 code42 nt42 ?_
  have hft : ∀ g, fit g (scs n f ++ rest) (scs n f ++ rest) := fun g => fit_same (by rw [rens_append, scs_rens, hrest])
  refine run_driveS 80 ?_
  simp only [go_sem, Nat.reduceAdd, Nat.reduceSub, Nat.reduceLeDiff, Nat.reduceMul, Nat.reduceLT, Nat.reduceEqDiff, Int.reduceLT, Int.reduceLE, Int.reduceAdd, Int.reduceSub, Int.reduceMul, Int.reduceToNat, reduceIte, reduceCtorEq, Nat.reduceBEq, v42, v42_0, v42_1]
  by_cases h0 : n = 0
  · subst h0
    refine run_cond_t (by rfl) ?_
    refine run_driveS 80 ?_
    simp only [go_sem, Nat.reduceAdd, Nat.reduceSub, Nat.reduceLeDiff, Nat.reduceMul, Nat.reduceLT, Nat.reduceEqDiff, Int.reduceLT, Int.reduceLE, Int.reduceAdd, Int.reduceSub, Int.reduceMul, Int.reduceToNat, reduceIte, reduceCtorEq, Nat.reduceBEq, v42_2]
    refine run_ret' Tryd.func42 res42 ?_
    simp only [go_sem, Nat.reduceAdd, Nat.reduceSub, Nat.reduceLeDiff, Nat.reduceMul, Nat.reduceLT, Nat.reduceEqDiff, Int.reduceLT, Int.reduceLE, Int.reduceAdd, Int.reduceSub, Int.reduceMul, Int.reduceToNat, reduceIte, reduceCtorEq, Nat.reduceBEq, rr42]
    exact hQ0 rfl
  · have hz : ((n : Int) == 0) = false := by
      rw [beq_eq_false_iff_ne]
      omega
    refine run_cond_f (by simp only [go_sem, Nat.reduceAdd, Nat.reduceSub, Nat.reduceLeDiff, Nat.reduceMul, Nat.reduceLT, Nat.reduceEqDiff, Int.reduceLT, Int.reduceLE, Int.reduceAdd, Int.reduceSub, Int.reduceMul, Int.reduceToNat, reduceIte, reduceCtorEq, Nat.reduceBEq, hz]) ?_
    have h1 : ((0 : Int) < (n : Int)) = True := eq_true (by omega)
    have h2 : ((32 : Int) * (n : Int) ≤ 281474976710656) = True := eq_true (by omega)
    have h3 : ((n : Int) ≤ 9223372036854775807) = True := eq_true (by omega)
    have hg0 := scs_get n f rest (i := 0) (by omega)
    rw [Nat.zero_mul, List.drop_zero] at hg0
    refine run_driveS 80 ?_
    simp only [go_sem, Nat.reduceAdd, Nat.reduceSub, Nat.reduceLeDiff, Nat.reduceMul, Nat.reduceLT, Nat.reduceEqDiff, Int.reduceLT, Int.reduceLE, Int.reduceAdd, Int.reduceSub, Int.reduceMul, Int.reduceToNat, reduceIte, reduceCtorEq, Nat.reduceBEq, v42_3, v42_4, scs_zero, h1, h2, h3, hg0]
    refine run_call' rfl ?_
    simp only [go_sem, Nat.reduceAdd, Nat.reduceSub, Nat.reduceLeDiff, Nat.reduceMul, Nat.reduceLT, Nat.reduceEqDiff, Int.reduceLT, Int.reduceLE, Int.reduceAdd, Int.reduceSub, Int.reduceMul, Int.reduceToNat, reduceIte, reduceCtorEq, Nat.reduceBEq, calV, m_one]
    refine one' _ ?_
    refine run_driveS 80 ?_
    simp only [go_sem, Nat.reduceAdd, Nat.reduceSub, Nat.reduceLeDiff, Nat.reduceMul, Nat.reduceLT, Nat.reduceEqDiff, Int.reduceLT, Int.reduceLE, Int.reduceAdd, Int.reduceSub, Int.reduceMul, Int.reduceToNat, reduceIte, reduceCtorEq, Nat.reduceBEq, v42_5, v42_14]
    refine run_rename [0, 1, 2] rfl (by simp) ?_ ?_ ?_ (inv_loop1 hG f hf rest hrest n hn cap (K := [.c (.seq (.reg v42_15) (.seq (.seq (.reg v42_16) (.block 2 v42_26)) (.seq (.reg v42_27) .ret)))]) ?_ n 0 (by omega))
    · unfold ih1
      rw [show (scs n fun j => if j < 0 then pf f j else 0) = scs n fun _ => 0 from scs_congr fun j _ => if_neg (Nat.not_lt_zero j), show pf f 0 = 1 from rfl]
      simp only [go_sem, Nat.reduceAdd, Nat.reduceSub, Nat.reduceLeDiff, Nat.reduceMul, Nat.reduceLT, Nat.reduceEqDiff, Int.reduceLT, Int.reduceLE, Int.reduceAdd, Int.reduceSub, Int.reduceMul, Int.reduceToNat, reduceIte, reduceCtorEq, Nat.reduceBEq, hfit, lc_fit, scs_fit, fit, ren, gmap, lw_plain, true_or, or_true, hft]
    · simp [uniq, ih1, wrB]
    · unfold ia1
      simp only [go_sem, Nat.reduceAdd, Nat.reduceSub, Nat.reduceLeDiff, Nat.reduceMul, Nat.reduceLT, Nat.reduceEqDiff, Int.reduceLT, Int.reduceLE, Int.reduceAdd, Int.reduceSub, Int.reduceMul, Int.reduceToNat, reduceIte, reduceCtorEq, Nat.reduceBEq, hfit, lc_fit, scs_fit, fit, ren, gmap, lw_plain, true_or, or_true]
    · unfold ia1 ih1
      refine run_driveS 80 ?_
      simp only [go_sem, Nat.reduceAdd, Nat.reduceSub, Nat.reduceLeDiff, Nat.reduceMul, Nat.reduceLT, Nat.reduceEqDiff, Int.reduceLT, Int.reduceLE, Int.reduceAdd, Int.reduceSub, Int.reduceMul, Int.reduceToNat, reduceIte, reduceCtorEq, Nat.reduceBEq, v42_15]
      refine run_call' rfl ?_
      simp only [go_sem, Nat.reduceAdd, Nat.reduceSub, Nat.reduceLeDiff, Nat.reduceMul, Nat.reduceLT, Nat.reduceEqDiff, Int.reduceLT, Int.reduceLE, Int.reduceAdd, Int.reduceSub, Int.reduceMul, Int.reduceToNat, reduceIte, reduceCtorEq, Nat.reduceBEq, calV, m_inv]
      refine invert' hG _ (Nat.lt_trans (pf_lt f n) ell_lt) ?_
      have hw : IntKind.i64.wrap ((n : Int) - 1) = (n : Int) - 1 := wrap_i64 (by omega) (by omega)
      refine run_driveS 80 ?_
      simp only [go_sem, Nat.reduceAdd, Nat.reduceSub, Nat.reduceLeDiff, Nat.reduceMul, Nat.reduceLT, Nat.reduceEqDiff, Int.reduceLT, Int.reduceLE, Int.reduceAdd, Int.reduceSub, Int.reduceMul, Int.reduceToNat, reduceIte, reduceCtorEq, Nat.reduceBEq, v42_16, v42_26, hw]
      refine run_rename [0, 1, 3] rfl (by simp) ?_ ?_ ?_ (inv_loop2 hG f hf rest hrest n hn cap (K := [.c (.seq (.reg v42_27) .ret)]) ?_ n (Nat.le_refl n))
      · unfold ih2
        rw [show (scs n fun j => if j < n then pf f j else linv (f j)) = scs n fun j => if j < n then pf f j else 0 from scs_congr fun j hj => by rw [if_pos hj, if_pos hj]]
        simp only [go_sem, Nat.reduceAdd, Nat.reduceSub, Nat.reduceLeDiff, Nat.reduceMul, Nat.reduceLT, Nat.reduceEqDiff, Int.reduceLT, Int.reduceLE, Int.reduceAdd, Int.reduceSub, Int.reduceMul, Int.reduceToNat, reduceIte, reduceCtorEq, Nat.reduceBEq, hfit, lc_fit, scs_fit, fit, ren, gmap, lw_plain, true_or, or_true, hft]
      · simp [uniq, ih2, wrB]
      · unfold ia2
        simp only [go_sem, Nat.reduceAdd, Nat.reduceSub, Nat.reduceLeDiff, Nat.reduceMul, Nat.reduceLT, Nat.reduceEqDiff, Int.reduceLT, Int.reduceLE, Int.reduceAdd, Int.reduceSub, Int.reduceMul, Int.reduceToNat, reduceIte, reduceCtorEq, Nat.reduceBEq, hfit, lc_fit, scs_fit, fit, ren, gmap, lw_plain, true_or, or_true]
      · unfold ia2 ih2
        rw [show (scs n fun j => if j < 0 then pf f j else linv (f j)) = scs n fun j => linv (f j) from scs_congr fun j _ => if_neg (Nat.not_lt_zero j)]
        refine run_driveS 80 ?_
        simp only [go_sem, Nat.reduceAdd, Nat.reduceSub, Nat.reduceLeDiff, Nat.reduceMul, Nat.reduceLT, Nat.reduceEqDiff, Int.reduceLT, Int.reduceLE, Int.reduceAdd, Int.reduceSub, Int.reduceMul, Int.reduceToNat, reduceIte, reduceCtorEq, Nat.reduceBEq, v42_27]
        refine run_ret_drop Tryd.func42 res42 [0, 1] (.sl 1 0 n (.exact n)) _ rfl (by simp) ?_ ?_ ?_ (hQ (by omega))
        · simp only [go_sem, Nat.reduceAdd, Nat.reduceSub, Nat.reduceLeDiff, Nat.reduceMul, Nat.reduceLT, Nat.reduceEqDiff, Int.reduceLT, Int.reduceLE, Int.reduceAdd, Int.reduceSub, Int.reduceMul, Int.reduceToNat, reduceIte, reduceCtorEq, Nat.reduceBEq, hfit, lc_fit, scs_fit, fit, ren, gmap, lw_plain, true_or, or_true, hft]
        · simp [uniq, wrB]
        · simp only [go_sem, Nat.reduceAdd, Nat.reduceSub, Nat.reduceLeDiff, Nat.reduceMul, Nat.reduceLT, Nat.reduceEqDiff, Int.reduceLT, Int.reduceLE, Int.reduceAdd, Int.reduceSub, Int.reduceMul, Int.reduceToNat, reduceIte, reduceCtorEq, Nat.reduceBEq, rr42, ren, gmap]
end
section
attribute [local go_sem ↓] lc_len lc_take lc_drop lc_known lc_one lc_rens lc_cells lw_known lw_agg lw_asG
set_option maxRecDepth 100000
set_option maxHeartbeats 1000000
theorem lct (a : Nat) (l : List V) : (lc a ++ l).take 4 = lc a := rfl
theorem lcd4 (a : Nat) (l : List V) : (lc a ++ l).drop 4 = l := rfl
theorem lcd8 (a : Nat) (l : List V) : (lc a ++ l).drop 8 = l.drop 4 := rfl
theorem lct8 (a b : Nat) : (lc a ++ lc b).take 8 = lc a ++ lc b := rfl
theorem lcne (a : Nat) (l : List V) : (lc a ++ l = []) = False := eq_false (fun h => by cases h)
attribute [local go_sem ↓] lct lcd4 lcd8 lct8 lcne
noncomputable def wf (f : Nat → Nat) : Nat → Nat → Nat
  | 0, _ => 1
  | t + 1, j => if j % 2 = 0 then wf f t (j / 2) * linv (f t) % ell else wf f t (j / 2) * f t % ell
theorem wf_lt (f : Nat → Nat) : ∀ t j, wf f t j < ell
  | 0, _ => show 1 < ell by decide
  | t + 1, j => by
    unfold wf
    split <;> exact mod_lt' _
theorem wf_even (f : Nat → Nat) (t i : Nat) : wf f (t + 1) (2 * i) = wf f t i * linv (f t) % ell := by
  rw [wf, if_pos (by omega), show 2 * i / 2 = i by omega]
theorem wf_odd (f : Nat → Nat) (t i : Nat) : wf f (t + 1) (2 * i + 1) = wf f t i * f t % ell := by
  rw [wf, if_neg (by omega), show (2 * i + 1) / 2 = i by omega]
theorem scs_two (f : Nat → Nat) : ∀ m, scs (2 * m) f = row m fun j => lc (f (2 * j)) ++ lc (f (2 * j + 1))
  | 0 => rfl
  | m + 1 => by
    have := scs_two f m
    unfold scs at *
    rw [show 2 * (m + 1) = 2 * m + 1 + 1 by omega, row, row, row, this, List.append_assoc]
theorem scs_set2 (m : Nat) (f f' : Nat → Nat) {i a b : Nat} (h : i < m) (ha : f' (2 * i) = a) (hb : f' (2 * i + 1) = b) (hf : ∀ j, j < 2 * m → j ≠ 2 * i → j ≠ 2 * i + 1 → f j = f' j) :
    (scs (2 * m) f).take (2 * i * 4) ++ (lc a ++ lc b) ++ (scs (2 * m) f).drop (2 * i * 4 + 8) = scs (2 * m) f' := by
  rw [show 2 * i * 4 = i * 8 by omega, scs_two, scs_two]
  have := row_set (s := 8) (e := fun j => lc (f (2 * j)) ++ lc (f (2 * j + 1))) (fun j => rfl) (cs := lc a ++ lc b) rfl h
  unfold splice at this
  rw [show (lc a ++ lc b).length = 8 from rfl] at this
  rw [this]
  refine row_congr fun j hj => ?_
  by_cases e : j = i
  · subst e; rw [upd_same, ha, hb]
  · rw [upd_ne e, hf (2 * j) (by omega) (by omega) (by omega), hf (2 * j + 1) (by omega) (by omega) (by omega)]
def wa1 (n : Nat) (cap : Cap) (i : Nat) : List V := [.sl 0 0 n cap, .unk, .nils, .int .i64 0] ++ List.replicate 12 .unk ++ [.sl 0 0 n cap, .int .i64 n, .int .i64 i] ++ List.replicate 43 .unk
theorem wei_loop1 (hG : G 0 = tbl) (f : Nat → Nat) (hf : ∀ j, f j < 115792089237316195423570985008687907853269984665640564039457584007913129639936) (rest : List V) (hrest : ∀ g, rens g rest = rest) (n : Nat) (hn : n < 1000000) (cap : Cap) {Q : V → Heap → Prop} {K : List TI}
    (h4 : (∃ j, j < n ∧ f j % ell = 0) → Q (.tup [.nils, .int .i64 4]) [some ⟨.ro, scs n f ++ rest⟩])
    (hK : (∀ j, j < n → f j % ell ≠ 0) → Run Tryd.prog G 27 1 Q (K, ⟨wa1 n cap n, [some ⟨.ro, scs n f ++ rest⟩]⟩)) : ∀ k i, i + k = n → (∀ j, j < i → f j % ell ≠ 0) → Run Tryd.prog G 27 1 Q (.l v27_10 :: .b 0 :: K, ⟨wa1 n cap i, [some ⟨.ro, scs n f ++ rest⟩]⟩)
  | 0, i, h, hz => by
    obtain rfl : i = n := by omega
    have hft : ∀ g, fit g (scs i f ++ rest) (scs i f ++ rest) := fun g => fit_same (by rw [rens_append, scs_rens, hrest])
    unfold wa1
    have h0 : ((i : Int) < (i : Int)) = False := eq_false (by omega)
    refine run_loop_eq v27_10.eq_1 ?_
    refine run_driveS 80 ?_
    simp only [go_sem, Nat.reduceAdd, Nat.reduceSub, Nat.reduceLeDiff, Nat.reduceMul, Nat.reduceLT, Nat.reduceEqDiff, Int.reduceLT, Int.reduceLE, Int.reduceAdd, Int.reduceSub, Int.reduceMul, Int.reduceToNat, reduceIte, reduceCtorEq, Nat.reduceBEq, v27_4, h0]
    refine run_exit rfl ?_
    refine run_rename [0] rfl (by simp) ?_ ?_ ?_ (hK hz)
    · simp only [go_sem, Nat.reduceAdd, Nat.reduceSub, Nat.reduceLeDiff, Nat.reduceMul, Nat.reduceLT, Nat.reduceEqDiff, Int.reduceLT, Int.reduceLE, Int.reduceAdd, Int.reduceSub, Int.reduceMul, Int.reduceToNat, reduceIte, reduceCtorEq, Nat.reduceBEq, hfit, lc_fit, scs_fit, fit, ren, gmap, lw_plain, true_or, or_true, hft]
    · simp [uniq, wrB]
    · unfold wa1
      simp only [go_sem, Nat.reduceAdd, Nat.reduceSub, Nat.reduceLeDiff, Nat.reduceMul, Nat.reduceLT, Nat.reduceEqDiff, Int.reduceLT, Int.reduceLE, Int.reduceAdd, Int.reduceSub, Int.reduceMul, Int.reduceToNat, reduceIte, reduceCtorEq, Nat.reduceBEq, hfit, lc_fit, scs_fit, fit, ren, gmap, lw_plain, true_or, or_true]
  | k + 1, i, h, hz => by
    have hft : ∀ g, fit g (scs n f ++ rest) (scs n f ++ rest) := fun g => fit_same (by rw [rens_append, scs_rens, hrest])
    unfold wa1
    have h0 : ((i : Int) < (n : Int)) = True := eq_true (by omega)
    have hg := scs_get n f rest (i := i) (by omega)
    have hw : IntKind.i64.wrap ((i : Int) + 1) = ((i + 1 : Nat) : Int) := by rw [wrap_i64 (by omega) (by omega)]; omega
    refine run_loop_eq v27_10.eq_1 ?_
    refine run_driveS 80 ?_
    simp only [go_sem, Nat.reduceAdd, Nat.reduceSub, Nat.reduceLeDiff, Nat.reduceMul, Nat.reduceLT, Nat.reduceEqDiff, Int.reduceLT, Int.reduceLE, Int.reduceAdd, Int.reduceSub, Int.reduceMul, Int.reduceToNat, reduceIte, reduceCtorEq, Nat.reduceBEq, v27_4, v27_8, v27_5, v27_6, h0, hg]
    refine run_call' rfl ?_
    simp only [go_sem, Nat.reduceAdd, Nat.reduceSub, Nat.reduceLeDiff, Nat.reduceMul, Nat.reduceLT, Nat.reduceEqDiff, Int.reduceLT, Int.reduceLE, Int.reduceAdd, Int.reduceSub, Int.reduceMul, Int.reduceToNat, reduceIte, reduceCtorEq, Nat.reduceBEq, calV]
    refine is_zero' hG _ (hf i) ?_
    refine run_driveS 80 ?_
    simp only [go_sem, Nat.reduceAdd, Nat.reduceSub, Nat.reduceLeDiff, Nat.reduceMul, Nat.reduceLT, Nat.reduceEqDiff, Int.reduceLT, Int.reduceLE, Int.reduceAdd, Int.reduceSub, Int.reduceMul, Int.reduceToNat, reduceIte, reduceCtorEq, Nat.reduceBEq]
    by_cases hz' : f i % ell = 0
    · refine run_cond_t (by simp only [go_sem, Nat.reduceAdd, Nat.reduceSub, Nat.reduceLeDiff, Nat.reduceMul, Nat.reduceLT, Nat.reduceEqDiff, Int.reduceLT, Int.reduceLE, Int.reduceAdd, Int.reduceSub, Int.reduceMul, Int.reduceToNat, reduceIte, reduceCtorEq, Nat.reduceBEq, decide_eq_true hz']) ?_
      refine run_driveS 80 ?_
      simp only [go_sem, Nat.reduceAdd, Nat.reduceSub, Nat.reduceLeDiff, Nat.reduceMul, Nat.reduceLT, Nat.reduceEqDiff, Int.reduceLT, Int.reduceLE, Int.reduceAdd, Int.reduceSub, Int.reduceMul, Int.reduceToNat, reduceIte, reduceCtorEq, Nat.reduceBEq, v27_7]
      refine run_ret_drop Tryd.func27 res27 [0] (.tup [.nils, .int .i64 4]) _ rfl (by simp) ?_ ?_ ?_ (h4 ⟨i, by omega, hz'⟩)
      · simp only [go_sem, Nat.reduceAdd, Nat.reduceSub, Nat.reduceLeDiff, Nat.reduceMul, Nat.reduceLT, Nat.reduceEqDiff, Int.reduceLT, Int.reduceLE, Int.reduceAdd, Int.reduceSub, Int.reduceMul, Int.reduceToNat, reduceIte, reduceCtorEq, Nat.reduceBEq, hfit, lc_fit, scs_fit, fit, ren, gmap, lw_plain, true_or, or_true, hft]
      · simp [uniq, wrB]
      · simp only [go_sem, Nat.reduceAdd, Nat.reduceSub, Nat.reduceLeDiff, Nat.reduceMul, Nat.reduceLT, Nat.reduceEqDiff, Int.reduceLT, Int.reduceLE, Int.reduceAdd, Int.reduceSub, Int.reduceMul, Int.reduceToNat, reduceIte, reduceCtorEq, Nat.reduceBEq, rr27, ren, rens, gmap]
    · refine run_cond_f (by simp only [go_sem, Nat.reduceAdd, Nat.reduceSub, Nat.reduceLeDiff, Nat.reduceMul, Nat.reduceLT, Nat.reduceEqDiff, Int.reduceLT, Int.reduceLE, Int.reduceAdd, Int.reduceSub, Int.reduceMul, Int.reduceToNat, reduceIte, reduceCtorEq, Nat.reduceBEq, decide_eq_false hz']) ?_
      refine run_driveS 80 ?_
      simp only [go_sem, Nat.reduceAdd, Nat.reduceSub, Nat.reduceLeDiff, Nat.reduceMul, Nat.reduceLT, Nat.reduceEqDiff, Int.reduceLT, Int.reduceLE, Int.reduceAdd, Int.reduceSub, Int.reduceMul, Int.reduceToNat, reduceIte, reduceCtorEq, Nat.reduceBEq, v27_9, hw]
      have ih := wei_loop1 hG f hf rest hrest n hn cap h4 hK k (i + 1) (by omega) (fun j hj => by
        by_cases e : j = i
        · subst e; exact hz'
        · exact hz j (by omega))
      refine run_rename [0] rfl (by simp) ?_ ?_ ?_ ih
      · simp only [go_sem, Nat.reduceAdd, Nat.reduceSub, Nat.reduceLeDiff, Nat.reduceMul, Nat.reduceLT, Nat.reduceEqDiff, Int.reduceLT, Int.reduceLE, Int.reduceAdd, Int.reduceSub, Int.reduceMul, Int.reduceToNat, reduceIte, reduceCtorEq, Nat.reduceBEq, hfit, lc_fit, scs_fit, fit, ren, gmap, lw_plain, true_or, or_true, hft]
      · simp [uniq, wrB]
      · unfold wa1
        simp only [go_sem, Nat.reduceAdd, Nat.reduceSub, Nat.reduceLeDiff, Nat.reduceMul, Nat.reduceLT, Nat.reduceEqDiff, Int.reduceLT, Int.reduceLE, Int.reduceAdd, Int.reduceSub, Int.reduceMul, Int.reduceToNat, reduceIte, reduceCtorEq, Nat.reduceBEq, hfit, lc_fit, scs_fit, fit, ren, gmap, lw_plain, true_or, or_true]
def wb (n : Nat) (cap : Cap) (m t : Nat) : List V := [.sl 0 0 n cap, .unk, .nils, .int .i64 0, .unk, .unk, .sl 1 0 n (.exact n), .sl 2 0 m (.exact m)] ++ List.replicate 21 .unk ++ [.sl 0 0 n cap, .int .i64 n, .int .i64 t] ++ List.replicate 30 .unk
noncomputable def whb (f : Nat → Nat) (rest : List V) (n m t : Nat) : Heap := [some ⟨.ro, scs n f ++ rest⟩, some ⟨.rw, scs n fun j => linv (f j)⟩, some ⟨.rw, scs m (wf f t)⟩]
def wc (n : Nat) (cap : Cap) (m t i : Nat) : List V := [.sl 0 0 n cap, .unk, .nils, .int .i64 0, .unk, .unk, .sl 1 0 n (.exact n), .sl 2 0 m (.exact m), .int .i64 t, .ptr 3 0, .sl 4 0 (2 * i) (.exact (2 * m))] ++ List.replicate 18 .unk ++ [.sl 0 0 n cap, .int .i64 n, .int .i64 t] ++ List.replicate 8 .unk ++ [.sl 2 0 m (.exact m), .int .i64 m, .int .i64 i] ++ List.replicate 19 .unk
noncomputable def whc (f : Nat → Nat) (rest : List V) (n m t i : Nat) : Heap := [some ⟨.ro, scs n f ++ rest⟩, some ⟨.rw, scs n fun j => linv (f j)⟩, some ⟨.rw, scs m (wf f t)⟩, some ⟨.rw, lc (f t)⟩, some ⟨.rw, scs (2 * m) fun j => if j < 2 * i then wf f (t + 1) j else 0⟩]
theorem wei_loop3 (hG : G 0 = tbl) (f : Nat → Nat) (hf : ∀ j, f j < 115792089237316195423570985008687907853269984665640564039457584007913129639936) (rest : List V) (hrest : ∀ g, rens g rest = rest) (n : Nat) (hn : n < 1000000) (cap : Cap) (m t : Nat) (ht : t < n) (hm : m < 1000000) {Q : V → Heap → Prop} {K : List TI}
    (hK : Run Tryd.prog G 27 1 Q (K, ⟨wc n cap m t m, whc f rest n m t m⟩)) : ∀ k i, i + k = m → Run Tryd.prog G 27 1 Q (.l v27_24 :: .b 4 :: K, ⟨wc n cap m t i, whc f rest n m t i⟩)
  | 0, i, h => by
    obtain rfl : i = m := by omega
    have hft : ∀ g, fit g (scs n f ++ rest) (scs n f ++ rest) := fun g => fit_same (by rw [rens_append, scs_rens, hrest])
    unfold wc whc
    have h0 : ((i : Int) < (i : Int)) = False := eq_false (by omega)
    refine run_loop_eq v27_24.eq_1 ?_
    refine run_driveS 80 ?_
    simp only [go_sem, Nat.reduceAdd, Nat.reduceSub, Nat.reduceLeDiff, Nat.reduceMul, Nat.reduceLT, Nat.reduceEqDiff, Int.reduceLT, Int.reduceLE, Int.reduceAdd, Int.reduceSub, Int.reduceMul, Int.reduceToNat, reduceIte, reduceCtorEq, Nat.reduceBEq, v27_19, h0]
    refine run_exit rfl ?_
    refine run_rename [0, 1, 2, 3, 4] rfl (by simp) ?_ ?_ ?_ hK
    · unfold whc
      simp only [go_sem, Nat.reduceAdd, Nat.reduceSub, Nat.reduceLeDiff, Nat.reduceMul, Nat.reduceLT, Nat.reduceEqDiff, Int.reduceLT, Int.reduceLE, Int.reduceAdd, Int.reduceSub, Int.reduceMul, Int.reduceToNat, reduceIte, reduceCtorEq, Nat.reduceBEq, hfit, lc_fit, scs_fit, fit, ren, gmap, lw_plain, true_or, or_true, hft]
    · simp [uniq, whc, wrB]
    · unfold wc
      simp only [go_sem, Nat.reduceAdd, Nat.reduceSub, Nat.reduceLeDiff, Nat.reduceMul, Nat.reduceLT, Nat.reduceEqDiff, Int.reduceLT, Int.reduceLE, Int.reduceAdd, Int.reduceSub, Int.reduceMul, Int.reduceToNat, reduceIte, reduceCtorEq, Nat.reduceBEq, hfit, lc_fit, scs_fit, fit, ren, gmap, lw_plain, true_or, or_true]
  | k + 1, i, h => by
    have ih := wei_loop3 hG f hf rest hrest n hn cap m t ht hm hK k (i + 1) (by omega)
    have hft : ∀ g, fit g (scs n f ++ rest) (scs n f ++ rest) := fun g => fit_same (by rw [rens_append, scs_rens, hrest])
    unfold wc whc
    have h0 : ((i : Int) < (m : Int)) = True := eq_true (by omega)
    have h1 : ((t : Int) < (n : Int)) = True := eq_true (by omega)
    have h2 : (2 * i + 2 ≤ 2 * m) = True := eq_true (by omega)
    have hg := scs_get' m (wf f t) (i := i) (by omega)
    have hg2 := scs_get' n (fun j => linv (f j)) (i := t) (by omega)
    have hw : IntKind.i64.wrap ((i : Int) + 1) = ((i + 1 : Nat) : Int) := by rw [wrap_i64 (by omega) (by omega)]; omega
    have hin : (2 * i * 4 + 8 ≤ (scs (2 * m) fun j => if j < 2 * i then wf f (t + 1) j else 0).length) = True := eq_true (by rw [scs_len]; omega)
    have hset := scs_set2 m (fun j => if j < 2 * i then wf f (t + 1) j else 0) (fun j => if j < 2 * (i + 1) then wf f (t + 1) j else 0) (i := i) (a := wf f t i * linv (f t) % ell) (b := wf f t i * f t % ell) (by omega)
      (by rw [if_pos (by omega), wf_even]) (by rw [if_pos (by omega), wf_odd]) (fun j _ h1 h2 => by by_cases h3 : j < 2 * i <;> simp [h3] <;> omega)
    refine run_loop_eq v27_24.eq_1 ?_
    refine run_driveS 80 ?_
    simp only [go_sem, Nat.reduceAdd, Nat.reduceSub, Nat.reduceLeDiff, Nat.reduceMul, Nat.reduceLT, Nat.reduceEqDiff, Int.reduceLT, Int.reduceLE, Int.reduceAdd, Int.reduceSub, Int.reduceMul, Int.reduceToNat, reduceIte, reduceCtorEq, Nat.reduceBEq, v27_19, v27_22, v27_20, h0, hg]
    refine run_drw (by kernel_rfl) ?_
    refine drun_drive 40 (p := (_, _)) ?_
    simp only [go_sem, Nat.reduceAdd, Nat.reduceSub, Nat.reduceLeDiff, Nat.reduceMul, Nat.reduceLT, Nat.reduceEqDiff, Int.reduceLT, Int.reduceLE, Int.reduceAdd, Int.reduceSub, Int.reduceMul, Int.reduceToNat, reduceIte, reduceCtorEq, Nat.reduceBEq, v27_21, h0, h1, hg2]
    refine drun_call' ?_
    simp only [go_sem, Nat.reduceAdd, Nat.reduceSub, Nat.reduceLeDiff, Nat.reduceMul, Nat.reduceLT, Nat.reduceEqDiff, Int.reduceLT, Int.reduceLE, Int.reduceAdd, Int.reduceSub, Int.reduceMul, Int.reduceToNat, reduceIte, reduceCtorEq, Nat.reduceBEq, calV]
    refine mul' hG _ _ (Nat.lt_trans (wf_lt f t i) ell_lt) (Nat.lt_trans (linv_lt _) ell_lt) ?_
    refine drun_drive 40 (p := (_, _)) ?_
    simp only [go_sem, Nat.reduceAdd, Nat.reduceSub, Nat.reduceLeDiff, Nat.reduceMul, Nat.reduceLT, Nat.reduceEqDiff, Int.reduceLT, Int.reduceLE, Int.reduceAdd, Int.reduceSub, Int.reduceMul, Int.reduceToNat, reduceIte, reduceCtorEq, Nat.reduceBEq]
    refine drun_call' ?_
    simp only [go_sem, Nat.reduceAdd, Nat.reduceSub, Nat.reduceLeDiff, Nat.reduceMul, Nat.reduceLT, Nat.reduceEqDiff, Int.reduceLT, Int.reduceLE, Int.reduceAdd, Int.reduceSub, Int.reduceMul, Int.reduceToNat, reduceIte, reduceCtorEq, Nat.reduceBEq, calV]
    refine mul' hG _ _ (Nat.lt_trans (wf_lt f t i) ell_lt) (hf t) ?_
    refine drun_drive 40 (p := (_, _)) ?_
    simp only [go_sem, Nat.reduceAdd, Nat.reduceSub, Nat.reduceLeDiff, Nat.reduceMul, Nat.reduceLT, Nat.reduceEqDiff, Int.reduceLT, Int.reduceLE, Int.reduceAdd, Int.reduceSub, Int.reduceMul, Int.reduceToNat, reduceIte, reduceCtorEq, Nat.reduceBEq, h2, hin, hset]
    refine drun_end ?_
    refine run_driveS 80 ?_
    simp only [go_sem, Nat.reduceAdd, Nat.reduceSub, Nat.reduceLeDiff, Nat.reduceMul, Nat.reduceLT, Nat.reduceEqDiff, Int.reduceLT, Int.reduceLE, Int.reduceAdd, Int.reduceSub, Int.reduceMul, Int.reduceToNat, reduceIte, reduceCtorEq, Nat.reduceBEq, v27_23, hw]
    refine run_rename [0, 1, 2, 3, 4] rfl (by simp) ?_ ?_ ?_ ih
    · unfold whc
      simp only [go_sem, Nat.reduceAdd, Nat.reduceSub, Nat.reduceLeDiff, Nat.reduceMul, Nat.reduceLT, Nat.reduceEqDiff, Int.reduceLT, Int.reduceLE, Int.reduceAdd, Int.reduceSub, Int.reduceMul, Int.reduceToNat, reduceIte, reduceCtorEq, Nat.reduceBEq, hfit, lc_fit, scs_fit, fit, ren, gmap, lw_plain, true_or, or_true, hft]
    · simp [uniq, whc, wrB]
    · unfold wc
      rw [show 2 * (i + 1) = 2 * i + 2 by omega]
      simp only [go_sem, Nat.reduceAdd, Nat.reduceSub, Nat.reduceLeDiff, Nat.reduceMul, Nat.reduceLT, Nat.reduceEqDiff, Int.reduceLT, Int.reduceLE, Int.reduceAdd, Int.reduceSub, Int.reduceMul, Int.reduceToNat, reduceIte, reduceCtorEq, Nat.reduceBEq, hfit, lc_fit, scs_fit, fit, ren, gmap, lw_plain, true_or, or_true]
end
section
attribute [local go_sem ↓] lc_len lc_take lc_drop lc_known lc_one lc_rens lc_cells lw_known lw_agg lw_asG
attribute [local go_sem ↓] lct lcd4 lcd8 lct8 lcne
set_option maxRecDepth 100000
set_option maxHeartbeats 1000000
theorem wei_loop2 (hG : G 0 = tbl) (f : Nat → Nat) (hf : ∀ j, f j < 115792089237316195423570985008687907853269984665640564039457584007913129639936) (rest : List V) (hrest : ∀ g, rens g rest = rest) (n : Nat) (hn : n ≤ 10) (cap : Cap) {Q : V → Heap → Prop} {K : List TI}
    (hK : Run Tryd.prog G 27 1 Q (K, ⟨wb n cap (2 ^ n) n, whb f rest n (2 ^ n) n⟩)) : ∀ k t, t + k = n → Run Tryd.prog G 27 1 Q (.l v27_29 :: .b 2 :: K, ⟨wb n cap (2 ^ t) t, whb f rest n (2 ^ t) t⟩)
  | 0, i, h => by
    obtain rfl : i = n := by omega
    have hft : ∀ g, fit g (scs i f ++ rest) (scs i f ++ rest) := fun g => fit_same (by rw [rens_append, scs_rens, hrest])
    unfold wb whb
    have h0 : ((i : Int) < (i : Int)) = False := eq_false (by omega)
    refine run_loop_eq v27_29.eq_1 ?_
    refine run_driveS 80 ?_
    simp only [go_sem, Nat.reduceAdd, Nat.reduceSub, Nat.reduceLeDiff, Nat.reduceMul, Nat.reduceLT, Nat.reduceEqDiff, Int.reduceLT, Int.reduceLE, Int.reduceAdd, Int.reduceSub, Int.reduceMul, Int.reduceToNat, reduceIte, reduceCtorEq, Nat.reduceBEq, v27_15, h0]
    refine run_exit rfl ?_
    refine run_rename [0, 1, 2] rfl (by simp) ?_ ?_ ?_ hK
    · unfold whb
      simp only [go_sem, Nat.reduceAdd, Nat.reduceSub, Nat.reduceLeDiff, Nat.reduceMul, Nat.reduceLT, Nat.reduceEqDiff, Int.reduceLT, Int.reduceLE, Int.reduceAdd, Int.reduceSub, Int.reduceMul, Int.reduceToNat, reduceIte, reduceCtorEq, Nat.reduceBEq, hfit, lc_fit, scs_fit, fit, ren, gmap, lw_plain, true_or, or_true, hft]
    · simp [uniq, whb, wrB]
    · unfold wb
      simp only [go_sem, Nat.reduceAdd, Nat.reduceSub, Nat.reduceLeDiff, Nat.reduceMul, Nat.reduceLT, Nat.reduceEqDiff, Int.reduceLT, Int.reduceLE, Int.reduceAdd, Int.reduceSub, Int.reduceMul, Int.reduceToNat, reduceIte, reduceCtorEq, Nat.reduceBEq, hfit, lc_fit, scs_fit, fit, ren, gmap, lw_plain, true_or, or_true]
  | k + 1, t, h => by
    have ih := wei_loop2 hG f hf rest hrest n hn cap hK k (t + 1) (by omega)
    have hft : ∀ g, fit g (scs n f ++ rest) (scs n f ++ rest) := fun g => fit_same (by rw [rens_append, scs_rens, hrest])
    have hp : 2 ^ t ≤ 2 ^ 10 := Nat.pow_le_pow_right (by decide) (by omega)
    have h2p : 2 ^ (t + 1) = 2 * 2 ^ t := by rw [Nat.pow_succ, Nat.mul_comm]
    rw [h2p] at ih
    generalize 2 ^ t = m at *
    unfold wb whb
    have h1 : ((t : Int) < (n : Int)) = True := eq_true (by omega)
    have hg := scs_get n f rest (i := t) (by omega)
    have hw : IntKind.i64.wrap ((t : Int) + 1) = ((t + 1 : Nat) : Int) := by rw [wrap_i64 (by omega) (by omega)]; omega
    have hw2 : IntKind.i64.wrap (2 * (m : Int)) = ((2 * m : Nat) : Int) := by rw [wrap_i64 (by omega) (by omega)]; omega
    have h2 : ((32 : Int) * ((2 * m : Nat) : Int) ≤ 281474976710656) = True := eq_true (by omega)
    have h3 : (((2 * m : Nat) : Int) ≤ 9223372036854775807) = True := eq_true (by omega)
    refine run_loop_eq v27_29.eq_1 ?_
    refine run_driveS 80 ?_
    simp only [go_sem, Nat.reduceAdd, Nat.reduceSub, Nat.reduceLeDiff, Nat.reduceMul, Nat.reduceLT, Nat.reduceEqDiff, Int.reduceLT, Int.reduceLE, Int.reduceAdd, Int.reduceSub, Int.reduceMul, Int.reduceToNat, reduceIte, reduceCtorEq, Nat.reduceBEq, v27_15, v27_27, v27_16, v27_17, v27_18, v27_25, h1, hg, hw2, h2, h3, scs_zero]
    refine run_rename [0, 1, 2, 3, 4] rfl (by simp) ?_ ?_ ?_ (wei_loop3 hG f hf rest hrest n (by omega) cap m t (by omega) (by omega) (K := .c (.reg v27_26) :: .b 3 :: .c (.reg v27_28) :: .l v27_29 :: .b 2 :: K) ?_ m 0 (by omega))
    · unfold whc
      rw [show (scs (2 * m) fun j => if j < 2 * 0 then wf f (t + 1) j else 0) = scs (2 * m) fun _ => 0 from scs_congr fun j _ => if_neg (by omega)]
      simp only [go_sem, Nat.reduceAdd, Nat.reduceSub, Nat.reduceLeDiff, Nat.reduceMul, Nat.reduceLT, Nat.reduceEqDiff, Int.reduceLT, Int.reduceLE, Int.reduceAdd, Int.reduceSub, Int.reduceMul, Int.reduceToNat, reduceIte, reduceCtorEq, Nat.reduceBEq, hfit, lc_fit, scs_fit, fit, ren, gmap, lw_plain, true_or, or_true, hft]
    · simp [uniq, whc, wrB]
    · unfold wc
      simp only [go_sem, Nat.reduceAdd, Nat.reduceSub, Nat.reduceLeDiff, Nat.reduceMul, Nat.reduceLT, Nat.reduceEqDiff, Int.reduceLT, Int.reduceLE, Int.reduceAdd, Int.reduceSub, Int.reduceMul, Int.reduceToNat, reduceIte, reduceCtorEq, Nat.reduceBEq, hfit, lc_fit, scs_fit, fit, ren, gmap, lw_plain, true_or, or_true]
    · unfold wc whc
      refine run_driveS 80 ?_
      simp only [go_sem, Nat.reduceAdd, Nat.reduceSub, Nat.reduceLeDiff, Nat.reduceMul, Nat.reduceLT, Nat.reduceEqDiff, Int.reduceLT, Int.reduceLE, Int.reduceAdd, Int.reduceSub, Int.reduceMul, Int.reduceToNat, reduceIte, reduceCtorEq, Nat.reduceBEq, v27_26, v27_28, hw]
      refine run_rename [0, 1, 4] rfl (by simp) ?_ ?_ ?_ ih
      · unfold whb
        rw [show (scs (2 * m) fun j => if j < 2 * m then wf f (t + 1) j else 0) = scs (2 * m) (wf f (t + 1)) from scs_congr fun j hj => if_pos hj]
        simp only [go_sem, Nat.reduceAdd, Nat.reduceSub, Nat.reduceLeDiff, Nat.reduceMul, Nat.reduceLT, Nat.reduceEqDiff, Int.reduceLT, Int.reduceLE, Int.reduceAdd, Int.reduceSub, Int.reduceMul, Int.reduceToNat, reduceIte, reduceCtorEq, Nat.reduceBEq, hfit, lc_fit, scs_fit, fit, ren, gmap, lw_plain, true_or, or_true, hft]
      · simp [uniq, whb, wrB]
      · unfold wb
        simp only [go_sem, Nat.reduceAdd, Nat.reduceSub, Nat.reduceLeDiff, Nat.reduceMul, Nat.reduceLT, Nat.reduceEqDiff, Int.reduceLT, Int.reduceLE, Int.reduceAdd, Int.reduceSub, Int.reduceMul, Int.reduceToNat, reduceIte, reduceCtorEq, Nat.reduceBEq, hfit, lc_fit, scs_fit, fit, ren, gmap, lw_plain, true_or, or_true]
theorem weights (hG : G 0 = tbl) (f : Nat → Nat) (hf : ∀ j, f j < 115792089237316195423570985008687907853269984665640564039457584007913129639936) (rest : List V) (hrest : ∀ g, rens g rest = rest) (n : Nat) (hn : n < 1000000) (cap : Cap) (Q : V → Heap → Prop)
    (h2 : 10 < n → Q (.tup [.nils, .int .i64 2]) [some ⟨.ro, scs n f ++ rest⟩])
    (h4 : n ≤ 10 → (∃ j, j < n ∧ f j % ell = 0) → Q (.tup [.nils, .int .i64 4]) [some ⟨.ro, scs n f ++ rest⟩])
    (h0 : n ≤ 10 → (∀ j, j < n → f j % ell ≠ 0) → Q (.tup [.sl 1 0 (2 ^ n) (.exact (2 ^ n)), .int .i64 0]) [some ⟨.ro, scs n f ++ rest⟩, some ⟨.rw, scs (2 ^ n) (wf f n)⟩]) : VCall Tryd.prog G 27 [.sl 0 0 n cap] [some ⟨.ro, scs n f ++ rest⟩] Q := by
  refine vcall_body Tryd.func27 nm27 code27 nt27 ?_
  have hft : ∀ g, fit g (scs n f ++ rest) (scs n f ++ rest) := fun g => fit_same (by rw [rens_append, scs_rens, hrest])
  refine run_driveS 80 ?_
  simp only [go_sem, Nat.reduceAdd, Nat.reduceSub, Nat.reduceLeDiff, Nat.reduceMul, Nat.reduceLT, Nat.reduceEqDiff, Int.reduceLT, Int.reduceLE, Int.reduceAdd, Int.reduceSub, Int.reduceMul, Int.reduceToNat, reduceIte, reduceCtorEq, Nat.reduceBEq, v27, v27_0, v27_1]
  by_cases hn2 : 10 < n
  · have hd : ((10 : Int) < (n : Int)) = True := eq_true (by omega)
    refine run_cond_t (by simp only [go_sem, Nat.reduceAdd, Nat.reduceSub, Nat.reduceLeDiff, Nat.reduceMul, Nat.reduceLT, Nat.reduceEqDiff, Int.reduceLT, Int.reduceLE, Int.reduceAdd, Int.reduceSub, Int.reduceMul, Int.reduceToNat, reduceIte, reduceCtorEq, Nat.reduceBEq, hd]) ?_
    refine run_driveS 80 ?_
    simp only [go_sem, Nat.reduceAdd, Nat.reduceSub, Nat.reduceLeDiff, Nat.reduceMul, Nat.reduceLT, Nat.reduceEqDiff, Int.reduceLT, Int.reduceLE, Int.reduceAdd, Int.reduceSub, Int.reduceMul, Int.reduceToNat, reduceIte, reduceCtorEq, Nat.reduceBEq, v27_2]
    refine run_ret' Tryd.func27 res27 ?_
    simp only [go_sem, Nat.reduceAdd, Nat.reduceSub, Nat.reduceLeDiff, Nat.reduceMul, Nat.reduceLT, Nat.reduceEqDiff, Int.reduceLT, Int.reduceLE, Int.reduceAdd, Int.reduceSub, Int.reduceMul, Int.reduceToNat, reduceIte, reduceCtorEq, Nat.reduceBEq, rr27]
    exact h2 hn2
  · have hd : ((10 : Int) < (n : Int)) = False := eq_false (by omega)
    refine run_cond_f (by simp only [go_sem, Nat.reduceAdd, Nat.reduceSub, Nat.reduceLeDiff, Nat.reduceMul, Nat.reduceLT, Nat.reduceEqDiff, Int.reduceLT, Int.reduceLE, Int.reduceAdd, Int.reduceSub, Int.reduceMul, Int.reduceToNat, reduceIte, reduceCtorEq, Nat.reduceBEq, hd]) ?_
    refine run_driveS 80 ?_
    simp only [go_sem, Nat.reduceAdd, Nat.reduceSub, Nat.reduceLeDiff, Nat.reduceMul, Nat.reduceLT, Nat.reduceEqDiff, Int.reduceLT, Int.reduceLE, Int.reduceAdd, Int.reduceSub, Int.reduceMul, Int.reduceToNat, reduceIte, reduceCtorEq, Nat.reduceBEq, v27_3, v27_11]
    refine run_rename [0] rfl (by simp) ?_ ?_ ?_ (wei_loop1 hG f hf rest hrest n hn cap (K := [.c (.seq (.reg v27_12) (.seq (.reg v27_13) (.seq (.seq (.reg v27_14) (.block 2 v27_30)) (.seq (.reg v27_31) .ret))))]) (h4 (by omega)) (fun hz => ?_) n 0 (by omega) (fun j hj => by omega))
    · simp only [go_sem, Nat.reduceAdd, Nat.reduceSub, Nat.reduceLeDiff, Nat.reduceMul, Nat.reduceLT, Nat.reduceEqDiff, Int.reduceLT, Int.reduceLE, Int.reduceAdd, Int.reduceSub, Int.reduceMul, Int.reduceToNat, reduceIte, reduceCtorEq, Nat.reduceBEq, hfit, lc_fit, scs_fit, fit, ren, gmap, lw_plain, true_or, or_true, hft]
    · simp [uniq, wrB]
    · unfold wa1
      simp only [go_sem, Nat.reduceAdd, Nat.reduceSub, Nat.reduceLeDiff, Nat.reduceMul, Nat.reduceLT, Nat.reduceEqDiff, Int.reduceLT, Int.reduceLE, Int.reduceAdd, Int.reduceSub, Int.reduceMul, Int.reduceToNat, reduceIte, reduceCtorEq, Nat.reduceBEq, hfit, lc_fit, scs_fit, fit, ren, gmap, lw_plain, true_or, or_true]
    · unfold wa1
      refine run_driveS 80 ?_
      simp only [go_sem, Nat.reduceAdd, Nat.reduceSub, Nat.reduceLeDiff, Nat.reduceMul, Nat.reduceLT, Nat.reduceEqDiff, Int.reduceLT, Int.reduceLE, Int.reduceAdd, Int.reduceSub, Int.reduceMul, Int.reduceToNat, reduceIte, reduceCtorEq, Nat.reduceBEq, v27_12]
      refine run_call' rfl ?_
      simp only [go_sem, Nat.reduceAdd, Nat.reduceSub, Nat.reduceLeDiff, Nat.reduceMul, Nat.reduceLT, Nat.reduceEqDiff, Int.reduceLT, Int.reduceLE, Int.reduceAdd, Int.reduceSub, Int.reduceMul, Int.reduceToNat, reduceIte, reduceCtorEq, Nat.reduceBEq, calV]
      refine vcall_at (invert_all hG f hf rest hrest n hn cap (fun v h => (n = 0 ∧ v = .nils ∧ h = [some ⟨.ro, scs n f ++ rest⟩]) ∨ (0 < n ∧ v = .sl 1 0 n (.exact n) ∧ h = [some ⟨.ro, scs n f ++ rest⟩, some ⟨.rw, scs n fun j => linv (f j)⟩])) (fun e => .inl ⟨e, rfl, rfl⟩) (fun e => .inr ⟨e, rfl, rfl⟩)) [0] (by simp) ?_ ?_ ?_ ?_
      · simp only [go_sem, Nat.reduceAdd, Nat.reduceSub, Nat.reduceLeDiff, Nat.reduceMul, Nat.reduceLT, Nat.reduceEqDiff, Int.reduceLT, Int.reduceLE, Int.reduceAdd, Int.reduceSub, Int.reduceMul, Int.reduceToNat, reduceIte, reduceCtorEq, Nat.reduceBEq, hfit, lc_fit, scs_fit, fit, ren, gmap, lw_plain, true_or, or_true, hft]
      · simp [uniq, wrB]
      · simp only [go_sem, Nat.reduceAdd, Nat.reduceSub, Nat.reduceLeDiff, Nat.reduceMul, Nat.reduceLT, Nat.reduceEqDiff, Int.reduceLT, Int.reduceLE, Int.reduceAdd, Int.reduceSub, Int.reduceMul, Int.reduceToNat, reduceIte, reduceCtorEq, Nat.reduceBEq, ren, rens, gmap]
      · rintro v h'' (⟨e, rfl, rfl⟩ | ⟨e, rfl, rfl⟩)
        · simp only [go_sem, Nat.reduceAdd, Nat.reduceSub, Nat.reduceLeDiff, Nat.reduceMul, Nat.reduceLT, Nat.reduceEqDiff, Int.reduceLT, Int.reduceLE, Int.reduceAdd, Int.reduceSub, Int.reduceMul, Int.reduceToNat, reduceIte, reduceCtorEq, Nat.reduceBEq, ren, rens, gmap, puts, wrB, Bool.false_eq_true, if_false, renB, scs_rens]
          subst e
          refine run_driveS 80 ?_
          simp only [go_sem, Nat.reduceAdd, Nat.reduceSub, Nat.reduceLeDiff, Nat.reduceMul, Nat.reduceLT, Nat.reduceEqDiff, Int.reduceLT, Int.reduceLE, Int.reduceAdd, Int.reduceSub, Int.reduceMul, Int.reduceToNat, reduceIte, reduceCtorEq, Nat.reduceBEq, v27_13]
          refine run_call' rfl ?_
          simp only [go_sem, Nat.reduceAdd, Nat.reduceSub, Nat.reduceLeDiff, Nat.reduceMul, Nat.reduceLT, Nat.reduceEqDiff, Int.reduceLT, Int.reduceLE, Int.reduceAdd, Int.reduceSub, Int.reduceMul, Int.reduceToNat, reduceIte, reduceCtorEq, Nat.reduceBEq, calV]
          refine int' 1 (by decide) ?_
          refine run_driveS 80 ?_
          simp only [go_sem, Nat.reduceAdd, Nat.reduceSub, Nat.reduceLeDiff, Nat.reduceMul, Nat.reduceLT, Nat.reduceEqDiff, Int.reduceLT, Int.reduceLE, Int.reduceAdd, Int.reduceSub, Int.reduceMul, Int.reduceToNat, reduceIte, reduceCtorEq, Nat.reduceBEq, v27_14, v27_30]
          refine run_loop_eq v27_29.eq_1 ?_
          refine run_driveS 80 ?_
          simp only [go_sem, Nat.reduceAdd, Nat.reduceSub, Nat.reduceLeDiff, Nat.reduceMul, Nat.reduceLT, Nat.reduceEqDiff, Int.reduceLT, Int.reduceLE, Int.reduceAdd, Int.reduceSub, Int.reduceMul, Int.reduceToNat, reduceIte, reduceCtorEq, Nat.reduceBEq, v27_15]
          refine run_exit rfl ?_
          refine run_driveS 80 ?_
          simp only [go_sem, Nat.reduceAdd, Nat.reduceSub, Nat.reduceLeDiff, Nat.reduceMul, Nat.reduceLT, Nat.reduceEqDiff, Int.reduceLT, Int.reduceLE, Int.reduceAdd, Int.reduceSub, Int.reduceMul, Int.reduceToNat, reduceIte, reduceCtorEq, Nat.reduceBEq, v27_31]
          refine run_ret_drop Tryd.func27 res27 [0, 1] (.tup [.sl 1 0 (2 ^ 0) (.exact (2 ^ 0)), .int .i64 0]) _ rfl (by simp) ?_ ?_ ?_ (h0 (by omega) hz)
          · rw [show scs (2 ^ 0) (wf f 0) = lc 1 from rfl]
            simp only [go_sem, Nat.reduceAdd, Nat.reduceSub, Nat.reduceLeDiff, Nat.reduceMul, Nat.reduceLT, Nat.reduceEqDiff, Int.reduceLT, Int.reduceLE, Int.reduceAdd, Int.reduceSub, Int.reduceMul, Int.reduceToNat, reduceIte, reduceCtorEq, Nat.reduceBEq, hfit, lc_fit, scs_fit, fit, ren, gmap, lw_plain, true_or, or_true, hft]
          · simp [uniq, wrB]
          · simp only [go_sem, Nat.reduceAdd, Nat.reduceSub, Nat.reduceLeDiff, Nat.reduceMul, Nat.reduceLT, Nat.reduceEqDiff, Int.reduceLT, Int.reduceLE, Int.reduceAdd, Int.reduceSub, Int.reduceMul, Int.reduceToNat, reduceIte, reduceCtorEq, Nat.reduceBEq, rr27, ren, rens, gmap, Nat.pow_zero]
        · simp only [go_sem, Nat.reduceAdd, Nat.reduceSub, Nat.reduceLeDiff, Nat.reduceMul, Nat.reduceLT, Nat.reduceEqDiff, Int.reduceLT, Int.reduceLE, Int.reduceAdd, Int.reduceSub, Int.reduceMul, Int.reduceToNat, reduceIte, reduceCtorEq, Nat.reduceBEq, ren, rens, gmap, puts, wrB, Bool.false_eq_true, if_false, renB, scs_rens]
          refine run_driveS 80 ?_
          simp only [go_sem, Nat.reduceAdd, Nat.reduceSub, Nat.reduceLeDiff, Nat.reduceMul, Nat.reduceLT, Nat.reduceEqDiff, Int.reduceLT, Int.reduceLE, Int.reduceAdd, Int.reduceSub, Int.reduceMul, Int.reduceToNat, reduceIte, reduceCtorEq, Nat.reduceBEq, v27_13]
          refine run_call' rfl ?_
          simp only [go_sem, Nat.reduceAdd, Nat.reduceSub, Nat.reduceLeDiff, Nat.reduceMul, Nat.reduceLT, Nat.reduceEqDiff, Int.reduceLT, Int.reduceLE, Int.reduceAdd, Int.reduceSub, Int.reduceMul, Int.reduceToNat, reduceIte, reduceCtorEq, Nat.reduceBEq, calV]
          refine int' 1 (by decide) ?_
          refine run_driveS 80 ?_
          simp only [go_sem, Nat.reduceAdd, Nat.reduceSub, Nat.reduceLeDiff, Nat.reduceMul, Nat.reduceLT, Nat.reduceEqDiff, Int.reduceLT, Int.reduceLE, Int.reduceAdd, Int.reduceSub, Int.reduceMul, Int.reduceToNat, reduceIte, reduceCtorEq, Nat.reduceBEq, v27_14, v27_30]
          refine run_rename [0, 1, 2] rfl (by simp) ?_ ?_ ?_ (wei_loop2 hG f hf rest hrest n (by omega) cap (K := [.c (.seq (.reg v27_31) .ret)]) ?_ n 0 (by omega))
          · unfold whb
            rw [show scs (2 ^ 0) (wf f 0) = lc 1 from rfl]
            simp only [go_sem, Nat.reduceAdd, Nat.reduceSub, Nat.reduceLeDiff, Nat.reduceMul, Nat.reduceLT, Nat.reduceEqDiff, Int.reduceLT, Int.reduceLE, Int.reduceAdd, Int.reduceSub, Int.reduceMul, Int.reduceToNat, reduceIte, reduceCtorEq, Nat.reduceBEq, hfit, lc_fit, scs_fit, fit, ren, gmap, lw_plain, true_or, or_true, hft]
          · simp [uniq, whb, wrB]
          · unfold wb
            simp only [go_sem, Nat.reduceAdd, Nat.reduceSub, Nat.reduceLeDiff, Nat.reduceMul, Nat.reduceLT, Nat.reduceEqDiff, Int.reduceLT, Int.reduceLE, Int.reduceAdd, Int.reduceSub, Int.reduceMul, Int.reduceToNat, reduceIte, reduceCtorEq, Nat.reduceBEq, hfit, lc_fit, scs_fit, fit, ren, gmap, lw_plain, true_or, or_true, Nat.pow_zero]
          · unfold wb whb
            refine run_driveS 80 ?_
            simp only [go_sem, Nat.reduceAdd, Nat.reduceSub, Nat.reduceLeDiff, Nat.reduceMul, Nat.reduceLT, Nat.reduceEqDiff, Int.reduceLT, Int.reduceLE, Int.reduceAdd, Int.reduceSub, Int.reduceMul, Int.reduceToNat, reduceIte, reduceCtorEq, Nat.reduceBEq, v27_31]
            refine run_ret_drop Tryd.func27 res27 [0, 2] (.tup [.sl 1 0 (2 ^ n) (.exact (2 ^ n)), .int .i64 0]) _ rfl (by simp) ?_ ?_ ?_ (h0 (by omega) hz)
            · simp only [go_sem, Nat.reduceAdd, Nat.reduceSub, Nat.reduceLeDiff, Nat.reduceMul, Nat.reduceLT, Nat.reduceEqDiff, Int.reduceLT, Int.reduceLE, Int.reduceAdd, Int.reduceSub, Int.reduceMul, Int.reduceToNat, reduceIte, reduceCtorEq, Nat.reduceBEq, hfit, lc_fit, scs_fit, fit, ren, gmap, lw_plain, true_or, or_true, hft]
            · simp [uniq, wrB]
            · simp only [go_sem, Nat.reduceAdd, Nat.reduceSub, Nat.reduceLeDiff, Nat.reduceMul, Nat.reduceLT, Nat.reduceEqDiff, Int.reduceLT, Int.reduceLE, Int.reduceAdd, Int.reduceSub, Int.reduceMul, Int.reduceToNat, reduceIte, reduceCtorEq, Nat.reduceBEq, rr27, ren, rens, gmap]
end
section
attribute [local go_sem ↓] lc_len lc_take lc_drop lc_known lc_one lc_rens lc_cells lw_known lw_agg lw_asG scs_known scs_one scs_len
set_option maxRecDepth 100000
set_option maxHeartbeats 1000000
theorem bool_tf : (true == false) = false := rfl
theorem bool_ft : (false == true) = false := rfl
attribute [local go_sem] bool_tf bool_ft
theorem shl_one (k : Nat) (hk : k ≤ 10) : binI .shl .i64 1 .i64 (k : Int) = some (.int .i64 ((2 ^ k : Nat) : Int)) := by
  have : k = 0 ∨ k = 1 ∨ k = 2 ∨ k = 3 ∨ k = 4 ∨ k = 5 ∨ k = 6 ∨ k = 7 ∨ k = 8 ∨ k = 9 ∨ k = 10 := by omega
  rcases this with rfl | rfl | rfl | rfl | rfl | rfl | rfl | rfl | rfl | rfl | rfl <;> rfl
theorem eq_int (a b : Nat) : ((a : Int) == (b : Int)) = decide (a = b) := by rw [Bool.eq_iff_iff]; simp; omega
def av (n : Nat) : Int := bits .and .i64 (n : Int) ((n : Int) - 1)
theorem av_all : ((List.range 1025).all fun n => Nat.beq n 0 || ((List.range 11).any (fun k => Nat.beq n (2 ^ k)) == decide (av n = 0))) = true := by decide +kernel
theorem av_pow {n : Nat} (h1 : 1 ≤ n) (h2 : n ≤ 1024) : (av n = 0) ↔ ∃ k : Nat, k ≤ 10 ∧ n = 2 ^ k := by
  have h := List.all_eq_true.1 av_all n (by rw [List.mem_range]; omega)
  rw [Bool.or_eq_true] at h
  rcases h with h | h
  · have := Nat.eq_of_beq_eq_true h; omega
  · have h := eq_of_beq h
    constructor
    · intro e
      rw [decide_eq_true e, List.any_eq_true] at h
      obtain ⟨k, hk, e⟩ := h
      rw [List.mem_range] at hk
      exact ⟨k, by omega, Nat.eq_of_beq_eq_true e⟩
    · rintro ⟨k, hk, e⟩
      have : (List.range 11).any (fun k => Nat.beq n (2 ^ k)) = true := List.any_eq_true.2 ⟨k, by rw [List.mem_range]; omega, by rw [e]; exact Nat.beq_refl _⟩
      rw [this] at h
      exact of_decide_eq_true h.symm
theorem b_and_av (n : Nat) : binI .and .i64 (n : Int) .i64 ((n : Int) - 1) = some (.int .i64 (av n)) := by simp only [binI, if_true, av]
theorem rounds_loop (K : Nat) (hK : K ≤ 10) {Q : V → Heap → Prop} (hQ : Q (.tup [.int .i64 K, .bool true]) []) : ∀ m k, k + m = K →
    Run Tryd.prog G 77 0 Q ([.l v77_7, .b 0, .c (.seq (.reg v77_9) .ret)], ⟨[.int .i64 ((2 ^ K : Nat) : Int), .unk, .int .i64 0, .bool false, .int .i64 k] ++ List.replicate 20 .unk, []⟩)
  | 0, k, h => by
    obtain rfl : k = K := by omega
    have hs := shl_one k hK
    have h0 : (((2 ^ k : Nat) : Int) < ((2 ^ k : Nat) : Int)) = False := eq_false (by omega)
    refine run_loop_eq v77_7.eq_1 ?_
    refine run_driveS 80 ?_
    simp only [go_sem, Nat.reduceAdd, Nat.reduceSub, Nat.reduceLeDiff, Nat.reduceMul, Nat.reduceLT, Nat.reduceEqDiff, Int.reduceLT, Int.reduceLE, Int.reduceAdd, Int.reduceSub, Int.reduceMul, Int.reduceToNat, reduceIte, reduceCtorEq, Nat.reduceBEq, v77_4, hs, h0]
    refine run_exit rfl ?_
    refine run_driveS 80 ?_
    simp only [go_sem, Nat.reduceAdd, Nat.reduceSub, Nat.reduceLeDiff, Nat.reduceMul, Nat.reduceLT, Nat.reduceEqDiff, Int.reduceLT, Int.reduceLE, Int.reduceAdd, Int.reduceSub, Int.reduceMul, Int.reduceToNat, reduceIte, reduceCtorEq, Nat.reduceBEq, v77_9]
    refine run_ret_drop Tryd.func77 res77 [] (.tup [.int .i64 k, .bool true]) [] rfl (by simp) trivial (by simp [uniq]) ?_ hQ
    simp only [go_sem, Nat.reduceAdd, Nat.reduceSub, Nat.reduceLeDiff, Nat.reduceMul, Nat.reduceLT, Nat.reduceEqDiff, Int.reduceLT, Int.reduceLE, Int.reduceAdd, Int.reduceSub, Int.reduceMul, Int.reduceToNat, reduceIte, reduceCtorEq, Nat.reduceBEq, rr77, ren, rens]
  | m + 1, k, h => by
    have ih := rounds_loop K hK hQ m (k + 1) (by omega)
    have hs := shl_one k (by omega)
    have hlt : 2 ^ k < 2 ^ K := Nat.pow_lt_pow_right (by decide) (by omega)
    have h0 : (((2 ^ k : Nat) : Int) < ((2 ^ K : Nat) : Int)) = True := eq_true (by omega)
    have hw : IntKind.i64.wrap ((k : Int) + 1) = ((k + 1 : Nat) : Int) := by rw [wrap_i64 (by omega) (by omega)]; omega
    refine run_loop_eq v77_7.eq_1 ?_
    refine run_driveS 80 ?_
    simp only [go_sem, Nat.reduceAdd, Nat.reduceSub, Nat.reduceLeDiff, Nat.reduceMul, Nat.reduceLT, Nat.reduceEqDiff, Int.reduceLT, Int.reduceLE, Int.reduceAdd, Int.reduceSub, Int.reduceMul, Int.reduceToNat, reduceIte, reduceCtorEq, Nat.reduceBEq, v77_4, v77_6, v77_5, hs, h0, hw]
    refine run_rename [] rfl (by simp) ?_ ?_ ?_ ih
    · simp only [go_sem, Nat.reduceAdd, Nat.reduceSub, Nat.reduceLeDiff, Nat.reduceMul, Nat.reduceLT, Nat.reduceEqDiff, Int.reduceLT, Int.reduceLE, Int.reduceAdd, Int.reduceSub, Int.reduceMul, Int.reduceToNat, reduceIte, reduceCtorEq, Nat.reduceBEq, hfit, lc_fit, scs_fit, fit, ren, gmap, lw_plain, true_or, or_true]
    · simp [uniq]
    · simp only [go_sem, Nat.reduceAdd, Nat.reduceSub, Nat.reduceLeDiff, Nat.reduceMul, Nat.reduceLT, Nat.reduceEqDiff, Int.reduceLT, Int.reduceLE, Int.reduceAdd, Int.reduceSub, Int.reduceMul, Int.reduceToNat, reduceIte, reduceCtorEq, Nat.reduceBEq, hfit, lc_fit, scs_fit, fit, ren, gmap, lw_plain, true_or, or_true]
theorem rounds_ (n : Nat) (hn : n < 1000000) {h : Heap} {R : V → Heap → Prop} (hQ1 : ∀ k : Nat, k ≤ 10 → n = 2 ^ k → R (.tup [.int .i64 k, .bool true]) h) (hQ2 : (∀ k : Nat, k ≤ 10 → n ≠ 2 ^ k) → R (.tup [.int .i64 0, .bool false]) h) : VCall Tryd.prog G 77 [.int .i64 n] h R := by
  refine vcall_plain (Q := fun v => (∃ k : Nat, k ≤ 10 ∧ n = 2 ^ k ∧ v = .tup [.int .i64 k, .bool true]) ∨ ((∀ k : Nat, k ≤ 10 → n ≠ 2 ^ k) ∧ v = .tup [.int .i64 0, .bool false])) ?_ (fun g => by simp only [rens, ren]) ?_ ?_
  · refine vcall_body Tryd.func77 nm77 code77 nt77 ?_
    have hw : IntKind.i64.wrap ((n : Int) - 1) = (n : Int) - 1 := wrap_i64 (by omega) (by omega)
    have ha := b_and_av n
    by_cases h1 : n < 1
    · have c1 : ((n : Int) < 1) = True := eq_true (by omega)
      refine run_driveS 80 ?_
      simp only [go_sem, Nat.reduceAdd, Nat.reduceSub, Nat.reduceLeDiff, Nat.reduceMul, Nat.reduceLT, Nat.reduceEqDiff, Int.reduceLT, Int.reduceLE, Int.reduceAdd, Int.reduceSub, Int.reduceMul, Int.reduceToNat, reduceIte, reduceCtorEq, Nat.reduceBEq, v77, v77_0, v77_1, c1]
      refine run_cond_t (by rfl) ?_
      refine run_driveS 80 ?_
      simp only [go_sem, Nat.reduceAdd, Nat.reduceSub, Nat.reduceLeDiff, Nat.reduceMul, Nat.reduceLT, Nat.reduceEqDiff, Int.reduceLT, Int.reduceLE, Int.reduceAdd, Int.reduceSub, Int.reduceMul, Int.reduceToNat, reduceIte, reduceCtorEq, Nat.reduceBEq, v77_2]
      refine run_ret_drop Tryd.func77 res77 [] (.tup [.int .i64 0, .bool false]) [] rfl (by simp) trivial (by simp [uniq]) ?_ ⟨.inr ⟨fun k _ e => by have := Nat.two_pow_pos k; omega, rfl⟩, rfl⟩
      simp only [go_sem, Nat.reduceAdd, Nat.reduceSub, Nat.reduceLeDiff, Nat.reduceMul, Nat.reduceLT, Nat.reduceEqDiff, Int.reduceLT, Int.reduceLE, Int.reduceAdd, Int.reduceSub, Int.reduceMul, Int.reduceToNat, reduceIte, reduceCtorEq, Nat.reduceBEq, rr77, ren, rens]
    · have c1 : ((n : Int) < 1) = False := eq_false (by omega)
      by_cases h2 : 1024 < n
      · have c2 : ((1024 : Int) < (n : Int)) = True := eq_true (by omega)
        refine run_driveS 80 ?_
        simp only [go_sem, Nat.reduceAdd, Nat.reduceSub, Nat.reduceLeDiff, Nat.reduceMul, Nat.reduceLT, Nat.reduceEqDiff, Int.reduceLT, Int.reduceLE, Int.reduceAdd, Int.reduceSub, Int.reduceMul, Int.reduceToNat, reduceIte, reduceCtorEq, Nat.reduceBEq, v77, v77_0, v77_1, c1, c2]
        refine run_cond_t (by rfl) ?_
        refine run_driveS 80 ?_
        simp only [go_sem, Nat.reduceAdd, Nat.reduceSub, Nat.reduceLeDiff, Nat.reduceMul, Nat.reduceLT, Nat.reduceEqDiff, Int.reduceLT, Int.reduceLE, Int.reduceAdd, Int.reduceSub, Int.reduceMul, Int.reduceToNat, reduceIte, reduceCtorEq, Nat.reduceBEq, v77_2]
        refine run_ret_drop Tryd.func77 res77 [] (.tup [.int .i64 0, .bool false]) [] rfl (by simp) trivial (by simp [uniq]) ?_ ⟨.inr ⟨fun k hk e => by have : 2 ^ k ≤ 2 ^ 10 := Nat.pow_le_pow_right (by decide) hk; omega, rfl⟩, rfl⟩
        simp only [go_sem, Nat.reduceAdd, Nat.reduceSub, Nat.reduceLeDiff, Nat.reduceMul, Nat.reduceLT, Nat.reduceEqDiff, Int.reduceLT, Int.reduceLE, Int.reduceAdd, Int.reduceSub, Int.reduceMul, Int.reduceToNat, reduceIte, reduceCtorEq, Nat.reduceBEq, rr77, ren, rens]
      · have c2 : ((1024 : Int) < (n : Int)) = False := eq_false (by omega)
        by_cases h3 : ∃ k : Nat, k ≤ 10 ∧ n = 2 ^ k
        · have c3 : (av n == 0) = true := by rw [beq_iff_eq]; exact (av_pow (by omega) (by omega)).2 h3
          refine run_driveS 80 ?_
          simp only [go_sem, Nat.reduceAdd, Nat.reduceSub, Nat.reduceLeDiff, Nat.reduceMul, Nat.reduceLT, Nat.reduceEqDiff, Int.reduceLT, Int.reduceLE, Int.reduceAdd, Int.reduceSub, Int.reduceMul, Int.reduceToNat, reduceIte, reduceCtorEq, Nat.reduceBEq, v77, v77_0, v77_1, c1, c2, hw, ha, c3]
          refine run_cond_f (by rfl) ?_
          refine run_driveS 80 ?_
          simp only [go_sem, Nat.reduceAdd, Nat.reduceSub, Nat.reduceLeDiff, Nat.reduceMul, Nat.reduceLT, Nat.reduceEqDiff, Int.reduceLT, Int.reduceLE, Int.reduceAdd, Int.reduceSub, Int.reduceMul, Int.reduceToNat, reduceIte, reduceCtorEq, Nat.reduceBEq, v77_3, v77_8]
          obtain ⟨k, hk, rfl⟩ := h3
          refine run_rename [] rfl (by simp) ?_ ?_ ?_ (rounds_loop k hk ⟨.inl ⟨k, hk, rfl, rfl⟩, rfl⟩ k 0 (by omega))
          · simp only [go_sem, Nat.reduceAdd, Nat.reduceSub, Nat.reduceLeDiff, Nat.reduceMul, Nat.reduceLT, Nat.reduceEqDiff, Int.reduceLT, Int.reduceLE, Int.reduceAdd, Int.reduceSub, Int.reduceMul, Int.reduceToNat, reduceIte, reduceCtorEq, Nat.reduceBEq, hfit, lc_fit, scs_fit, fit, ren, gmap, lw_plain, true_or, or_true]
          · simp [uniq]
          · simp only [go_sem, Nat.reduceAdd, Nat.reduceSub, Nat.reduceLeDiff, Nat.reduceMul, Nat.reduceLT, Nat.reduceEqDiff, Int.reduceLT, Int.reduceLE, Int.reduceAdd, Int.reduceSub, Int.reduceMul, Int.reduceToNat, reduceIte, reduceCtorEq, Nat.reduceBEq, hfit, lc_fit, scs_fit, fit, ren, gmap, lw_plain, true_or, or_true]
        · have c3 : (av n == 0) = false := by
            rw [beq_eq_false_iff_ne]
            exact fun e => h3 ((av_pow (by omega) (by omega)).1 e)
          refine run_driveS 80 ?_
          simp only [go_sem, Nat.reduceAdd, Nat.reduceSub, Nat.reduceLeDiff, Nat.reduceMul, Nat.reduceLT, Nat.reduceEqDiff, Int.reduceLT, Int.reduceLE, Int.reduceAdd, Int.reduceSub, Int.reduceMul, Int.reduceToNat, reduceIte, reduceCtorEq, Nat.reduceBEq, v77, v77_0, v77_1, c1, c2, hw, ha, c3]
          refine run_cond_t (by rfl) ?_
          refine run_driveS 80 ?_
          simp only [go_sem, Nat.reduceAdd, Nat.reduceSub, Nat.reduceLeDiff, Nat.reduceMul, Nat.reduceLT, Nat.reduceEqDiff, Int.reduceLT, Int.reduceLE, Int.reduceAdd, Int.reduceSub, Int.reduceMul, Int.reduceToNat, reduceIte, reduceCtorEq, Nat.reduceBEq, v77_2]
          refine run_ret_drop Tryd.func77 res77 [] (.tup [.int .i64 0, .bool false]) [] rfl (by simp) trivial (by simp [uniq]) ?_ ⟨.inr ⟨fun k hk e => h3 ⟨k, hk, e⟩, rfl⟩, rfl⟩
          simp only [go_sem, Nat.reduceAdd, Nat.reduceSub, Nat.reduceLeDiff, Nat.reduceMul, Nat.reduceLT, Nat.reduceEqDiff, Int.reduceLT, Int.reduceLE, Int.reduceAdd, Int.reduceSub, Int.reduceMul, Int.reduceToNat, reduceIte, reduceCtorEq, Nat.reduceBEq, rr77, ren, rens]
  · rintro v g (⟨k, _, _, rfl⟩ | ⟨_, rfl⟩) <;> rfl
  · rintro v (⟨k, hk, e, rfl⟩ | ⟨hz, rfl⟩)
    · exact hQ1 k hk e
    · exact hQ2 hz
end
section
attribute [local go_sem ↓] lc_len lc_take lc_drop lc_known lc_one lc_rens lc_cells lw_known lw_agg lw_asG scs_known scs_one scs_len
set_option maxRecDepth 100000
set_option maxHeartbeats 1000000
theorem add_ (hG : G 0 = tbl) (A B : Nat) (hA : A < 115792089237316195423570985008687907853269984665640564039457584007913129639936) (hB : B < 115792089237316195423570985008687907853269984665640564039457584007913129639936) {h : Heap} {R : V → Heap → Prop} (hQ : R (lw ((A + B) % ell)) h) : VCall Tryd.prog G 28 [lw A, lw B] h R := by
  refine vcall_plain (Q := fun v => v = lw ((A + B) % ell)) ?_ (fun g => by simp only [rens, lw_plain]) (fun v g hv => by subst hv; exact lw_plain _ g) (fun v hv => by subst hv; exact hQ)
  have h2 : ell + ell < 115792089237316195423570985008687907853269984665640564039457584007913129639936 := by decide
  have ha := mod_lt' A
  have hb' := mod_lt' B
  refine vcall_body Tryd.func28 nm28 code28 nt28 ?_
  refine run_driveS 80 ?_
  simp only [go_sem, Nat.reduceAdd, Nat.reduceSub, Nat.reduceLeDiff, Nat.reduceMul, Nat.reduceLT, Nat.reduceEqDiff, Int.reduceLT, Int.reduceLE, Int.reduceAdd, Int.reduceSub, Int.reduceMul, Int.reduceToNat, reduceIte, reduceCtorEq, Nat.reduceBEq, v28, v28_0]
  refine run_drw (by kernel_rfl) ?_
  refine drun_drive 40 (p := (_, _)) ?_
  simp only [go_sem, Nat.reduceAdd, Nat.reduceSub, Nat.reduceLeDiff, Nat.reduceMul, Nat.reduceLT, Nat.reduceEqDiff, Int.reduceLT, Int.reduceLE, Int.reduceAdd, Int.reduceSub, Int.reduceMul, Int.reduceToNat, reduceIte, reduceCtorEq, Nat.reduceBEq, v28_1]
  refine drun_call' ?_
  simp only [go_sem, Nat.reduceAdd, Nat.reduceSub, Nat.reduceLeDiff, Nat.reduceMul, Nat.reduceLT, Nat.reduceEqDiff, Int.reduceLT, Int.reduceLE, Int.reduceAdd, Int.reduceSub, Int.reduceMul, Int.reduceToNat, reduceIte, reduceCtorEq, Nat.reduceBEq, calV]
  refine least' hG A hA ?_
  refine drun_drive 40 (p := (_, _)) ?_
  simp only [go_sem, Nat.reduceAdd, Nat.reduceSub, Nat.reduceLeDiff, Nat.reduceMul, Nat.reduceLT, Nat.reduceEqDiff, Int.reduceLT, Int.reduceLE, Int.reduceAdd, Int.reduceSub, Int.reduceMul, Int.reduceToNat, reduceIte, reduceCtorEq, Nat.reduceBEq]
  refine drun_call' ?_
  simp only [go_sem, Nat.reduceAdd, Nat.reduceSub, Nat.reduceLeDiff, Nat.reduceMul, Nat.reduceLT, Nat.reduceEqDiff, Int.reduceLT, Int.reduceLE, Int.reduceAdd, Int.reduceSub, Int.reduceMul, Int.reduceToNat, reduceIte, reduceCtorEq, Nat.reduceBEq, calV]
  refine least' hG B hB ?_
  refine drun_drive 40 (p := (_, _)) ?_
  simp only [go_sem, Nat.reduceAdd, Nat.reduceSub, Nat.reduceLeDiff, Nat.reduceMul, Nat.reduceLT, Nat.reduceEqDiff, Int.reduceLT, Int.reduceLE, Int.reduceAdd, Int.reduceSub, Int.reduceMul, Int.reduceToNat, reduceIte, reduceCtorEq, Nat.reduceBEq]
  refine drun_call' ?_
  simp only [go_sem, Nat.reduceAdd, Nat.reduceSub, Nat.reduceLeDiff, Nat.reduceMul, Nat.reduceLT, Nat.reduceEqDiff, Int.reduceLT, Int.reduceLE, Int.reduceAdd, Int.reduceSub, Int.reduceMul, Int.reduceToNat, reduceIte, reduceCtorEq, Nat.reduceBEq, calV]
  refine plus' _ _ (mod_lt A) (mod_lt B) fun D b hD hb he => ?_
  unfold u
  refine drun_drive 40 (p := (_, _)) ?_
  simp only [go_sem, Nat.reduceAdd, Nat.reduceSub, Nat.reduceLeDiff, Nat.reduceMul, Nat.reduceLT, Nat.reduceEqDiff, Int.reduceLT, Int.reduceLE, Int.reduceAdd, Int.reduceSub, Int.reduceMul, Int.reduceToNat, reduceIte, reduceCtorEq, Nat.reduceBEq]
  refine drun_end ?_
  refine run_driveS 80 ?_
  simp only [go_sem, Nat.reduceAdd, Nat.reduceSub, Nat.reduceLeDiff, Nat.reduceMul, Nat.reduceLT, Nat.reduceEqDiff, Int.reduceLT, Int.reduceLE, Int.reduceAdd, Int.reduceSub, Int.reduceMul, Int.reduceToNat, reduceIte, reduceCtorEq, Nat.reduceBEq, v28_2]
  refine run_call' rfl ?_
  simp only [go_sem, Nat.reduceAdd, Nat.reduceSub, Nat.reduceLeDiff, Nat.reduceMul, Nat.reduceLT, Nat.reduceEqDiff, Int.reduceLT, Int.reduceLE, Int.reduceAdd, Int.reduceSub, Int.reduceMul, Int.reduceToNat, reduceIte, reduceCtorEq, Nat.reduceBEq, calV]
  refine lower' hG D hD ?_
  have hR : (if ell ≤ D then D - ell else D) = (A + B) % ell := by
    have e1 : (A + B) % ell = (A % ell + B % ell) % ell := Nat.add_mod A B ell
    rw [e1]
    have hb0 : b = 0 := by omega
    subst hb0
    by_cases h1 : ell ≤ D
    · rw [if_pos h1, Nat.mod_eq_sub_mod (by omega), Nat.mod_eq_of_lt (by omega)]; omega
    · rw [if_neg h1, Nat.mod_eq_of_lt (by omega)]; omega
  rw [hR]
  refine run_driveS 80 ?_
  simp only [go_sem, Nat.reduceAdd, Nat.reduceSub, Nat.reduceLeDiff, Nat.reduceMul, Nat.reduceLT, Nat.reduceEqDiff, Int.reduceLT, Int.reduceLE, Int.reduceAdd, Int.reduceSub, Int.reduceMul, Int.reduceToNat, reduceIte, reduceCtorEq, Nat.reduceBEq]
  refine run_ret_drop Tryd.func28 res28 [] (lw ((A + B) % ell)) [] rfl (by simp) trivial (by simp [uniq]) ?_ ⟨rfl, rfl⟩
  simp only [go_sem, Nat.reduceAdd, Nat.reduceSub, Nat.reduceLeDiff, Nat.reduceMul, Nat.reduceLT, Nat.reduceEqDiff, Int.reduceLT, Int.reduceLE, Int.reduceAdd, Int.reduceSub, Int.reduceMul, Int.reduceToNat, reduceIte, reduceCtorEq, Nat.reduceBEq, rr28, lw_plain]
end
section
attribute [local go_sem ↓] lc_len lc_take lc_drop lc_known lc_one lc_rens lc_cells lw_known lw_agg lw_asG
set_option maxRecDepth 100000
set_option maxHeartbeats 1000000
theorem lt_nat (a b : Nat) : decide ((a : Int) < (b : Int)) = decide (a < b) := by
  rw [Bool.eq_iff_iff]; simp
theorem lt_natl (a b : Nat) : decide ((a : Int) < nl b) = decide (a < b) := lt_nat a b
theorem lt_lnat (a b : Nat) : decide (nl a < (b : Int)) = decide (a < b) := lt_nat a b
theorem lt_ll (a b : Nat) : decide (nl a < nl b) = decide (a < b) := lt_nat a b
attribute [local go_sem] lt_nat lt_natl lt_lnat lt_ll
end
section
attribute [local go_sem ↓] lc_len lc_take lc_drop lc_known lc_one lc_rens lc_cells lw_known lw_agg lw_asG
attribute [local go_sem] lt_nat lt_natl lt_lnat lt_ll
set_option maxRecDepth 100000
set_option maxHeartbeats 1000000
theorem lc_of {d0 d1 d2 d3 : Nat} (h0 : d0 < 18446744073709551616) (h1 : d1 < 18446744073709551616) (h2 : d2 < 18446744073709551616) (h3 : d3 < 18446744073709551616) :
    [V.int .u64 (d0 : Int), .int .u64 (d1 : Int), .int .u64 (d2 : Int), .int .u64 (d3 : Int)] = lc (d0 + 18446744073709551616 * d1 + 340282366920938463463374607431768211456 * d2 + 6277101735386680763835789423207666416102355444464034512896 * d3) := by
  have := lw_of h0 h1 h2 h3
  unfold lw at this
  injection this with this
  exact this.symm
end
section
attribute [local go_sem ↓] lc_len lc_take lc_drop lc_known lc_one lc_rens lc_cells lw_known lw_agg lw_asG
attribute [local go_sem] lt_nat lt_natl lt_lnat lt_ll
set_option maxRecDepth 100000
set_option maxHeartbeats 1000000
def hp (ws : Nat → Nat) (n : Nat) : Nat → Nat
  | 0 => 0
  | k + 1 => 65536 * hp ws n k + ws (n - 1 - k)
end
section
attribute [local go_sem ↓] lc_len lc_take lc_drop lc_known lc_one lc_rens lc_cells lw_known lw_agg lw_asG
attribute [local go_sem] lt_nat lt_natl lt_lnat lt_ll
set_option maxRecDepth 100000
set_option maxHeartbeats 1000000
def val (p : Nat → Nat) : Nat → Nat
  | 0 => 0
  | n + 1 => val p n + p n * 4294967296 ^ n
end
section
attribute [local go_sem ↓] lc_len lc_take lc_drop lc_known lc_one lc_rens lc_cells lw_known lw_agg lw_asG
attribute [local go_sem] lt_nat lt_natl lt_lnat lt_ll
set_option maxRecDepth 100000
set_option maxHeartbeats 1000000
def pz : List V := [.int .i64 0, .int .i64 0, .int .i64 0, .int .i64 0, .int .i64 0, .int .i64 0, .int .i64 0, .int .i64 0, .int .i64 0, .int .i64 0, .int .i64 0, .int .i64 0, .int .i64 0, .int .i64 0, .int .i64 0, .int .i64 0, .int .i64 0, .int .i64 0, .int .i64 0, .int .i64 0]
def ecs (k : Nat) : List V := .int .i64 2 :: (pz ++ (lc k ++ [.nils]))
def ew (k : Nat) : V := .agg (ecs k)
theorem ecs_rens (k : Nat) (g : Nat → Nat) : rens g (ecs k) = ecs k := by simp only [ecs, pz, rens, rens_append, lc_rens, ren]
theorem ew_plain (k : Nat) (g : Nat → Nat) : ren g (ew k) = ew k := by simp only [ew, ren, ecs_rens]
attribute [local go_sem ↓] ecs_rens
end
section
attribute [local go_sem ↓] lc_len lc_take lc_drop lc_known lc_one lc_rens lc_cells lw_known lw_agg lw_asG scs_known scs_one scs_len
set_option maxRecDepth 100000
set_option maxHeartbeats 1000000
theorem lc_take_add (a k : Nat) (l : List V) : (lc a ++ l).take (k + 4) = lc a ++ l.take k := rfl
theorem lc_drop_add (a k : Nat) (l : List V) : (lc a ++ l).drop (k + 4) = l.drop k := rfl
attribute [local go_sem ↓] lc_take_add lc_drop_add
attribute [local go_sem] bool_tf bool_ft
def stL (P Q : Nat) (g h : V) : V := .agg (lc P ++ (lc Q ++ [g, h]))
def arL (l r : V) (a b : Nat) : V := .agg (l :: r :: (lc a ++ lc b))
theorem stL_ren (P Q : Nat) (x y : V) (g : Nat → Nat) : ren g (stL P Q x y) = stL P Q (ren g x) (ren g y) := by simp only [stL, ren, rens_append, lc_rens, rens]
theorem arL_ren (x y : V) (a b : Nat) (g : Nat → Nat) : ren g (arL x y a b) = arL (ren g x) (ren g y) a b := by simp only [arL, ren, rens_append, lc_rens, rens]
theorem pow_inj {a b : Nat} (h : 2 ^ a = 2 ^ b) : a = b := by
  rcases Nat.lt_trichotomy a b with h1 | h1 | h1
  · have := Nat.pow_lt_pow_right (a := 2) (by decide) h1; omega
  · exact h1
  · have := Nat.pow_lt_pow_right (a := 2) (by decide) h1; omega
end
section
attribute [local go_sem ↓] lc_len lc_take lc_drop lc_known lc_one lc_rens lc_cells lw_known lw_agg lw_asG
attribute [local go_sem] lt_nat lt_natl lt_lnat lt_ll
set_option maxRecDepth 100000
set_option maxHeartbeats 1000000
inductive In (f : Nat → Nat) : Nat → V → Option Blk → Prop
  | nil : In f 0 .nils none
  | sl (n m : Nat) (h : n ≤ m) : In f n (.sl 0 0 n (.exact m)) (some ⟨.ro, scs n f⟩)
end
section
attribute [local go_sem ↓] lc_len lc_take lc_drop lc_known lc_one lc_rens lc_cells lw_known lw_agg lw_asG scs_known scs_one scs_len
attribute [local go_sem] lt_nat lt_natl lt_lnat lt_ll
set_option maxRecDepth 100000
set_option maxHeartbeats 1000000
def dv (b : Nat) (n : Nat) : V := if n = 0 then .nils else .sl b 0 n (.grow 4)
def db (g : Nat → Nat) (n : Nat) : Option Blk := if n = 0 then none else some ⟨.grow, scs n g⟩
theorem dv_pos {b n : Nat} (h : 0 < n) : dv b n = .sl b 0 n (.grow 4) := if_neg (by omega)
theorem db_pos {g : Nat → Nat} {n : Nat} (h : 0 < n) : db g n = some ⟨.grow, scs n g⟩ := if_neg (by omega)
theorem scs_snoc (n : Nat) (g : Nat → Nat) {v : Nat} (h : g n = v) : scs n g ++ lc v = scs (n + 1) g := by subst h; rfl
end
section
attribute [local go_sem ↓] lc_len lc_take lc_drop lc_known lc_one lc_rens lc_cells lw_known lw_agg lw_asG scs_known scs_one scs_len
attribute [local go_sem] lt_nat lt_natl lt_lnat lt_ll bool_tf bool_ft
attribute [local go_sem ↓] ecs_rens
set_option maxRecDepth 100000
set_option maxHeartbeats 1000000
def ers (n : Nat) (f : Nat → Nat) : List V := row n fun j => ecs (f j)
def eb (f : Nat → Nat) (n : Nat) : Option Blk := if n = 0 then none else some ⟨.ro, ers n f⟩
theorem lenO_dv (b n : Nat) : lenO (dv b n) = some n := by
  unfold dv
  by_cases h : n = 0
  · rw [if_pos h, h]; rfl
  · rw [if_neg h]; rfl
theorem dv_known (b n : Nat) : (dv b n).known = true := by unfold dv; split <;> rfl
theorem dv_one (b n : Nat) : (dv b n).one = true := by unfold dv; split <;> rfl
theorem dv_ren (b n : Nat) (g : Nat → Nat) : ren g (dv b n) = dv (g b) n := by unfold dv; split <;> rfl
def rob (g : Nat → Nat) (n : Nat) : Option Blk := if n = 0 then none else some ⟨.ro, scs n g⟩
theorem rob_pos {g : Nat → Nat} {n : Nat} (h : 0 < n) : rob g n = some ⟨.ro, scs n g⟩ := if_neg (by omega)
theorem rob_zero (g : Nat → Nat) : rob g 0 = none := rfl
theorem rob_cases (f : Nat → Nat) (n : Nat) : rob f n = none ∨ rob f n = some ⟨.ro, scs n f⟩ := by unfold rob; split <;> simp
attribute [local go_sem ↓] lc_take_add lc_drop_add lenO_dv dv_known dv_one dv_ren
end
section
attribute [local go_sem ↓] lc_len lc_take lc_drop lc_known lc_one lc_rens lc_cells lw_known lw_agg lw_asG scs_known scs_one scs_len
attribute [local go_sem] lt_nat lt_natl lt_lnat lt_ll bool_tf bool_ft
set_option maxRecDepth 100000
set_option maxHeartbeats 1000000
theorem run_for {P : Program} {f : FuncId} {n : Nat} {md : Md} {Q : V → Heap → Prop} {k : List TI} (S : Nat → St) (N : Nat) (step : ∀ i, i < N → RunM P G f n md Q (k, S (i + 1)) → RunM P G f n md Q (k, S i)) (last : RunM P G f n md Q (k, S N)) : RunM P G f n md Q (k, S 0) := by
  have : ∀ j i, i + j = N → RunM P G f n md Q (k, S i) := by
    intro j
    induction j with
    | zero =>
      intro i h
      obtain rfl : i = N := (by omega)
      exact last
    | succ j ih => intro i h; exact step i (by omega) (ih (i + 1) (by omega))
  exact this N 0 (by omega)
theorem line_times (hG : G 0 = tbl) (A K : Nat) (hA : A < 115792089237316195423570985008687907853269984665640564039457584007913129639936) (hK : K < 115792089237316195423570985008687907853269984665640564039457584007913129639936) {h : Heap} {R : V → Heap → Prop} (hQ : R (lw (A * K % ell)) h) : VCall Tryd.prog G 182 [lw A, lw K] h R := by
  refine vcall_plain (Q := fun v => v = lw (A * K % ell)) ?_ (fun g => by simp only [rens, lw_plain, ew_plain, ren]) (fun v g hv => by subst hv; exact lw_plain _ g) (fun v hv => by subst hv; exact hQ)
  refine vcall_body Tryd.func182 nm182 code182 nt182 ?_
  refine run_driveS 80 ?_
  simp only [go_sem, Nat.reduceAdd, Nat.reduceSub, Nat.reduceLeDiff, Nat.reduceMul, Nat.reduceLT, Nat.reduceEqDiff, Int.reduceLT, Int.reduceLE, Int.reduceAdd, Int.reduceSub, Int.reduceMul, Int.reduceToNat, reduceIte, reduceCtorEq, Nat.reduceBEq, v182, v182_0, v182_1]
  refine run_call' rfl ?_
  simp only [go_sem, Nat.reduceAdd, Nat.reduceSub, Nat.reduceLeDiff, Nat.reduceMul, Nat.reduceLT, Nat.reduceEqDiff, Int.reduceLT, Int.reduceLE, Int.reduceAdd, Int.reduceSub, Int.reduceMul, Int.reduceToNat, reduceIte, reduceCtorEq, Nat.reduceBEq, calV]
  refine mul' hG _ _ hA hK ?_
  refine run_driveS 80 ?_
  simp only [go_sem, Nat.reduceAdd, Nat.reduceSub, Nat.reduceLeDiff, Nat.reduceMul, Nat.reduceLT, Nat.reduceEqDiff, Int.reduceLT, Int.reduceLE, Int.reduceAdd, Int.reduceSub, Int.reduceMul, Int.reduceToNat, reduceIte, reduceCtorEq, Nat.reduceBEq]
  refine run_ret_drop Tryd.func182 res182 [] (lw (A * K % ell)) [] rfl (by simp) trivial (by simp [uniq]) ?_ ⟨rfl, rfl⟩
  simp only [go_sem, Nat.reduceAdd, Nat.reduceSub, Nat.reduceLeDiff, Nat.reduceMul, Nat.reduceLT, Nat.reduceEqDiff, Int.reduceLT, Int.reduceLE, Int.reduceAdd, Int.reduceSub, Int.reduceMul, Int.reduceToNat, reduceIte, reduceCtorEq, Nat.reduceBEq, rr182, lw_plain, ew_plain, ren]
theorem line_add (hG : G 0 = tbl) (A B : Nat) (hA : A < 115792089237316195423570985008687907853269984665640564039457584007913129639936) (hB : B < 115792089237316195423570985008687907853269984665640564039457584007913129639936) {h : Heap} {R : V → Heap → Prop} (hQ : R (lw ((A + B) % ell)) h) : VCall Tryd.prog G 180 [lw A, lw B] h R := by
  refine vcall_plain (Q := fun v => v = lw ((A + B) % ell)) ?_ (fun g => by simp only [rens, lw_plain, ew_plain, ren]) (fun v g hv => by subst hv; exact lw_plain _ g) (fun v hv => by subst hv; exact hQ)
  refine vcall_body Tryd.func180 nm180 code180 nt180 ?_
  refine run_driveS 80 ?_
  simp only [go_sem, Nat.reduceAdd, Nat.reduceSub, Nat.reduceLeDiff, Nat.reduceMul, Nat.reduceLT, Nat.reduceEqDiff, Int.reduceLT, Int.reduceLE, Int.reduceAdd, Int.reduceSub, Int.reduceMul, Int.reduceToNat, reduceIte, reduceCtorEq, Nat.reduceBEq, v180, v180_0, v180_1]
  refine run_call' rfl ?_
  simp only [go_sem, Nat.reduceAdd, Nat.reduceSub, Nat.reduceLeDiff, Nat.reduceMul, Nat.reduceLT, Nat.reduceEqDiff, Int.reduceLT, Int.reduceLE, Int.reduceAdd, Int.reduceSub, Int.reduceMul, Int.reduceToNat, reduceIte, reduceCtorEq, Nat.reduceBEq, calV]
  refine add_ hG _ _ hA hB ?_
  refine run_driveS 80 ?_
  simp only [go_sem, Nat.reduceAdd, Nat.reduceSub, Nat.reduceLeDiff, Nat.reduceMul, Nat.reduceLT, Nat.reduceEqDiff, Int.reduceLT, Int.reduceLE, Int.reduceAdd, Int.reduceSub, Int.reduceMul, Int.reduceToNat, reduceIte, reduceCtorEq, Nat.reduceBEq]
  refine run_ret_drop Tryd.func180 res180 [] (lw ((A + B) % ell)) [] rfl (by simp) trivial (by simp [uniq]) ?_ ⟨rfl, rfl⟩
  simp only [go_sem, Nat.reduceAdd, Nat.reduceSub, Nat.reduceLeDiff, Nat.reduceMul, Nat.reduceLT, Nat.reduceEqDiff, Int.reduceLT, Int.reduceLE, Int.reduceAdd, Int.reduceSub, Int.reduceMul, Int.reduceToNat, reduceIte, reduceCtorEq, Nat.reduceBEq, rr180, lw_plain, ew_plain, ren]
end
end Go.Vs.Tryd
namespace Go.Vs.Tryd
open Go.Proofs
variable {G : Nat → List V}
set_option linter.unusedSimpArgs false
attribute [local go_sem] lenO_nils lenO_sl sliceAtV Int.sub_zero List.length_append List.all_append ge_iff_le gt_iff_lt Int.natCast_nonneg Int.toNat_natCast Nat.mul_one b_and_ll b_shr_ll b_mul_ll b_add_ll b_or_ll b_shl_ll pick_ll pick_lc pick_bb driveS stopV Option.isSome_some Option.isSome_none Kind.m Kind.w Kind.g look_ro look_rw look_grow drive stepV exo expo evs fillV isNil nilKind eqV eqL optA optM sliceAtV ev kn ldc stc splice appV srcV lenV setd wantV exitV rvs rv one List.length_cons List.length_nil List.cons_append List.nil_append List.append_nil List.replicate List.getD_cons_zero List.getD_cons_succ List.set_cons_zero List.set_cons_succ List.getElem?_cons_zero List.getElem?_cons_succ List.getElem?_nil List.take_succ_cons List.take_zero List.take_nil List.drop_succ_cons List.drop_zero List.drop_nil List.all_cons List.all_nil List.any_cons List.any_nil Bool.and_true Bool.true_and Bool.and_self Option.map_some Option.map_none Option.bind_some Option.some.injEq Nat.add_zero Nat.zero_add Int.toNat_zero Int.toNat_one Int.zero_add Int.add_zero if_true if_false ite_true ite_false and_true true_and and_self ne_eq not_false_eq_true not_true_eq_false decide_true decide_false Bool.false_eq_true Bool.not_true Bool.not_false beq_self_eq_true BEq.rfl Bool.not_eq_true Nat.le_refl Int.le_refl Nat.zero_le List.foldl List.map_cons List.map_nil Prod.mk.injEq Int.cast_ofNat_Int Int.zero_le_ofNat b_add_cc b_add_cl b_add_lc b_mul_cc b_mul_cl b_mul_lc b_sub_cc b_sub_cl b_sub_lc b_and_cc b_and_cl b_and_lc b_or_cc b_or_cl b_or_lc b_xor_cc b_xor_cl b_xor_lc b_andNot_cc b_andNot_cl b_andNot_lc b_shr_cc b_shr_cl b_shr_lc b_shl_cc b_shl_cl b_shl_lc b_lss b_leq b_gtr b_geq b_add_i b_sub_i b_mul_i beq_cc beq_cl beq_lc beq_ll b_quo_i b_rem_i neg_u64 wrap_i64 driveD stepD idsAt idOf maskH_nil restore_nil restore_mask List.filterMap_nil List.filterMap_cons VOp.looks VOp.makes exA cells_agg cells_int cells_bool cells_str cells_nilp cells_ptr cells_glob cells_nils cells_sl cells_nilf cells_fn cells_nili cells_ifc known_agg known_tup known_int known_bool known_str known_nilp known_ptr known_glob known_nils known_sl known_nilf known_fn known_nili known_ifc known_unk one_agg one_tup one_int one_bool one_str one_nilp one_ptr one_glob one_nils one_sl one_nilf one_fn one_nili one_ifc asK_int asN_int asB_bool asS_str asG_agg asT_tup true_or or_true false_or or_false
attribute [local go_sem ↓] lc_len lc_take lc_drop lc_known lc_one lc_rens lc_cells lw_known lw_agg lw_asG scs_known scs_one scs_len
attribute [local go_sem] lt_nat lt_natl lt_lnat lt_ll bool_tf bool_ft
set_option maxRecDepth 100000
set_option maxHeartbeats 1000000
theorem m_times : methV Tryd.prog 29 "Times" = some 182 := by kernel_rfl
theorem m_add : methV Tryd.prog 29 "Add" = some 180 := by kernel_rfl
theorem halves_ (p m : Nat) (hm : 0 < m) (hm2 : m < 1000000) (c : Cap) (hc : c = .grow 4 ∨ ∃ k, c = .exact k ∧ 2 * m ≤ k) (f : Nat → Nat) {h : Heap} (hp : h[p]? = some (some ⟨.ro, scs (2 * m) f⟩)) {R : V → Heap → Prop}
    (hQ : R (.tup [.sl p 0 m (.exact m), .sl p (m * 4) m (.exact m)]) h) : VCall Tryd.prog G 109 [.sl p 0 (2 * m) c] h R := by
  have hd : Int.tdiv ((2 * m : Nat) : Int) 2 = (m : Int) := by
    rw [show (2 : Int) = ((2 : Nat) : Int) from rfl, ← Int.ofNat_tdiv]
    congr 1
    omega
  have hwm : IntKind.i64.wrap (m : Int) = (m : Int) := wrap_i64 (by omega) (by omega)
  have h0 : ((m : Int) ≤ ((2 * m : Nat) : Int)) = True := eq_true (by omega)
  have h1 : (m = 0) = False := eq_false (by omega)
  have h1' : ((m : Int) = 0) = False := eq_false (by omega)
  have h2 : (((2 * m : Nat) : Int) = (m : Int)) = False := eq_false (by omega)
  have h3 : (2 * m * 4 ≤ 2 * m * 4) = True := eq_true (by omega)
  have h4 : (((2 * m : Nat) : Int) - (m : Int)) = (m : Int) := by omega
  have h5 : ((m : Int) ≤ (m : Int)) = True := eq_true (by omega)
  have h6 : (((2 * m : Nat) : Int) ≤ ((2 * m : Nat) : Int)) = True := eq_true (by omega)
  refine vcall_body Tryd.func109 nm109 code109 nt109 ?_
  rcases hc with rfl | ⟨k, rfl, hk⟩
  · refine run_driveS 80 ?_
    simp only [go_sem, Nat.reduceAdd, Nat.reduceSub, Nat.reduceLeDiff, Nat.reduceMul, Nat.reduceLT, Nat.reduceEqDiff, Int.reduceLT, Int.reduceLE, Int.reduceAdd, Int.reduceSub, Int.reduceMul, Int.reduceToNat, reduceIte, reduceCtorEq, Nat.reduceBEq, v109, v109_0, v109_1, hd, hwm]
    refine run_drw (by kernel_rfl) ?_
    refine drun_drive 40 (p := (_, _)) ?_
    simp only [go_sem, Nat.reduceAdd, Nat.reduceSub, Nat.reduceLeDiff, Nat.reduceMul, Nat.reduceLT, Nat.reduceEqDiff, Int.reduceLT, Int.reduceLE, Int.reduceAdd, Int.reduceSub, Int.reduceMul, Int.reduceToNat, reduceIte, reduceCtorEq, Nat.reduceBEq, v109_2, hp, hd, hwm, h0, h1, h1', h2, h3, h4, h5, h6]
    refine drun_end ?_
    refine run_driveS 80 ?_
    simp only [go_sem, Nat.reduceAdd, Nat.reduceSub, Nat.reduceLeDiff, Nat.reduceMul, Nat.reduceLT, Nat.reduceEqDiff, Int.reduceLT, Int.reduceLE, Int.reduceAdd, Int.reduceSub, Int.reduceMul, Int.reduceToNat, reduceIte, reduceCtorEq, Nat.reduceBEq]
    refine run_ret' Tryd.func109 res109 ?_
    simp only [go_sem, Nat.reduceAdd, Nat.reduceSub, Nat.reduceLeDiff, Nat.reduceMul, Nat.reduceLT, Nat.reduceEqDiff, Int.reduceLT, Int.reduceLE, Int.reduceAdd, Int.reduceSub, Int.reduceMul, Int.reduceToNat, reduceIte, reduceCtorEq, Nat.reduceBEq, rr109]
    exact hQ
  · have h7 : ((m : Int) ≤ (k : Int)) = True := eq_true (by omega)
    have h8 : (((2 * m : Nat) : Int) ≤ (k : Int)) = True := eq_true (by omega)
    refine run_driveS 80 ?_
    simp only [go_sem, Nat.reduceAdd, Nat.reduceSub, Nat.reduceLeDiff, Nat.reduceMul, Nat.reduceLT, Nat.reduceEqDiff, Int.reduceLT, Int.reduceLE, Int.reduceAdd, Int.reduceSub, Int.reduceMul, Int.reduceToNat, reduceIte, reduceCtorEq, Nat.reduceBEq, v109, v109_0, v109_1, hd, hwm]
    refine run_drw (by kernel_rfl) ?_
    refine drun_drive 40 (p := (_, _)) ?_
    simp only [go_sem, Nat.reduceAdd, Nat.reduceSub, Nat.reduceLeDiff, Nat.reduceMul, Nat.reduceLT, Nat.reduceEqDiff, Int.reduceLT, Int.reduceLE, Int.reduceAdd, Int.reduceSub, Int.reduceMul, Int.reduceToNat, reduceIte, reduceCtorEq, Nat.reduceBEq, v109_2, hp, hd, hwm, h0, h1, h1', h2, h3, h4, h5, h6, h7, h8]
    refine drun_end ?_
    refine run_driveS 80 ?_
    simp only [go_sem, Nat.reduceAdd, Nat.reduceSub, Nat.reduceLeDiff, Nat.reduceMul, Nat.reduceLT, Nat.reduceEqDiff, Int.reduceLT, Int.reduceLE, Int.reduceAdd, Int.reduceSub, Int.reduceMul, Int.reduceToNat, reduceIte, reduceCtorEq, Nat.reduceBEq]
    refine run_ret' Tryd.func109 res109 ?_
    simp only [go_sem, Nat.reduceAdd, Nat.reduceSub, Nat.reduceLeDiff, Nat.reduceMul, Nat.reduceLT, Nat.reduceEqDiff, Int.reduceLT, Int.reduceLE, Int.reduceAdd, Int.reduceSub, Int.reduceMul, Int.reduceToNat, reduceIte, reduceCtorEq, Nat.reduceBEq, rr109]
    exact hQ
def fe (x y m : Nat) (f : Nat → Nat) : Nat → Nat := fun j => (f j * x % ell + f (m + j) * y % ell) % ell
theorem fe_lt (x y m : Nat) (f : Nat → Nat) (j : Nat) : fe x y m f j < ell := mod_lt' _
theorem scs_two_get (m : Nat) (f : Nat → Nat) {i : Nat} (h : i < m) : ((scs (2 * m) f).drop (m * 4 + i * 4)).take 4 = lc (f (m + i)) := by
  have := scs_get' (2 * m) f (i := m + i) (by omega)
  rw [Nat.add_mul] at this
  exact this
theorem fold_elements (hG : G 0 = tbl) (x y m : Nat) (hx : x < 115792089237316195423570985008687907853269984665640564039457584007913129639936) (hy : y < 115792089237316195423570985008687907853269984665640564039457584007913129639936) (hm : 0 < m) (hm2 : m < 1000000) (c : Cap) (hc : c = .grow 4 ∨ ∃ k, c = .exact k ∧ 2 * m ≤ k) (f : Nat → Nat) (hf : ∀ j, f j < 115792089237316195423570985008687907853269984665640564039457584007913129639936) (Q : V → Heap → Prop)
    (hQ : Q (.sl 1 0 m (.exact m)) [some ⟨.ro, scs (2 * m) f⟩, some ⟨.rw, scs m (fe x y m f)⟩]) : VCall Tryd.prog G 88 [lw x, .sl 0 0 (2 * m) c, lw y] [some ⟨.ro, scs (2 * m) f⟩] Q := by
  have hl := ell_lt
  have a1 : ((32 : Int) * (m : Int) ≤ 281474976710656) = True := eq_true (by omega)
  have a2 : ((m : Int) ≤ 9223372036854775807) = True := eq_true (by omega)
  refine vcall_body Tryd.func88 nm88 code88 nt88 ?_
  refine run_driveS 80 ?_
  simp only [go_sem, Nat.reduceAdd, Nat.reduceSub, Nat.reduceLeDiff, Nat.reduceMul, Nat.reduceLT, Nat.reduceEqDiff, Int.reduceLT, Int.reduceLE, Int.reduceAdd, Int.reduceSub, Int.reduceMul, Int.reduceToNat, reduceIte, reduceCtorEq, Nat.reduceBEq, v88, v88_0, v88_1]
  refine run_call' rfl ?_
  simp only [go_sem, Nat.reduceAdd, Nat.reduceSub, Nat.reduceLeDiff, Nat.reduceMul, Nat.reduceLT, Nat.reduceEqDiff, Int.reduceLT, Int.reduceLE, Int.reduceAdd, Int.reduceSub, Int.reduceMul, Int.reduceToNat, reduceIte, reduceCtorEq, Nat.reduceBEq, calV]
  refine halves_ 0 m hm hm2 c hc f rfl ?_
  refine run_driveS 80 ?_
  simp only [go_sem, Nat.reduceAdd, Nat.reduceSub, Nat.reduceLeDiff, Nat.reduceMul, Nat.reduceLT, Nat.reduceEqDiff, Int.reduceLT, Int.reduceLE, Int.reduceAdd, Int.reduceSub, Int.reduceMul, Int.reduceToNat, reduceIte, reduceCtorEq, Nat.reduceBEq, v88_2, v88_3, v88_10, a1, a2, ↓scs_zero]
  refine run_rename [0, 1, 2, 3] (st' := ⟨[.unk, .unk, .unk, .ptr 1 0, .unk, .ptr 2 0, .nils, .sl 0 0 m (.exact m), .sl 0 (m * 4) m (.exact m), .sl 3 0 m (.exact m)] ++ List.replicate 10 .unk ++ [.sl 0 0 m (.exact m), .int .i64 m, .int .i64 (0 : Nat)] ++ List.replicate 22 .unk, [some ⟨.ro, scs (2 * m) f⟩, some ⟨.rw, lc x⟩, some ⟨.rw, lc y⟩, some ⟨.rw, scs m fun j => if j < 0 then fe x y m f j else 0⟩]⟩) rfl (by simp) ?_ ?_ ?_ (run_for (fun i => ⟨[.unk, .unk, .unk, .ptr 1 0, .unk, .ptr 2 0, .nils, .sl 0 0 m (.exact m), .sl 0 (m * 4) m (.exact m), .sl 3 0 m (.exact m)] ++ List.replicate 10 .unk ++ [.sl 0 0 m (.exact m), .int .i64 m, .int .i64 i] ++ List.replicate 22 .unk, [some ⟨.ro, scs (2 * m) f⟩, some ⟨.rw, lc x⟩, some ⟨.rw, lc y⟩, some ⟨.rw, scs m fun j => if j < i then fe x y m f j else 0⟩]⟩) m (fun i hi ih => ?_) ?_)
  · rw [show (scs m fun j => if j < 0 then fe x y m f j else 0) = scs m fun _ => 0 from scs_congr fun j _ => if_neg (by omega)]
    simp only [go_sem, Nat.reduceAdd, Nat.reduceSub, Nat.reduceLeDiff, Nat.reduceMul, Nat.reduceLT, Nat.reduceEqDiff, Int.reduceLT, Int.reduceLE, Int.reduceAdd, Int.reduceSub, Int.reduceMul, Int.reduceToNat, reduceIte, reduceCtorEq, Nat.reduceBEq, hfit, lc_fit, scs_fit, fit, ren, gmap, lw_plain, true_or, or_true]
  · simp [uniq, wrB]
  · simp only [go_sem, Nat.reduceAdd, Nat.reduceSub, Nat.reduceLeDiff, Nat.reduceMul, Nat.reduceLT, Nat.reduceEqDiff, Int.reduceLT, Int.reduceLE, Int.reduceAdd, Int.reduceSub, Int.reduceMul, Int.reduceToNat, reduceIte, reduceCtorEq, Nat.reduceBEq, hfit, lc_fit, scs_fit, fit, ren, gmap, lw_plain, true_or, or_true]
  · have h0 : ((i : Int) < (m : Int)) = True := eq_true (by omega)
    have hw : IntKind.i64.wrap ((i : Int) + 1) = ((i + 1 : Nat) : Int) := by rw [wrap_i64 (by omega) (by omega)]; omega
    have g1 := scs_get' (2 * m) f (i := i) (by omega)
    have g2 := scs_two_get m f hi
    have hin := scs_in m (fun j => if j < i then fe x y m f j else 0) (i := i) (by omega)
    have hset := scs_set m (fun j => if j < i then fe x y m f j else 0) (fun j => if j < i + 1 then fe x y m f j else 0) (i := i) (v := fe x y m f i) (by omega) (by simp) (fun j _ hj => by by_cases h1 : j < i <;> simp [h1] <;> omega)
    have b1 : (i * 4 + 4 ≤ m * 4) = True := eq_true (by omega)
    refine run_loop_eq v88_9.eq_1 ?_
    refine run_driveS 80 ?_
    simp only [go_sem, Nat.reduceAdd, Nat.reduceSub, Nat.reduceLeDiff, Nat.reduceMul, Nat.reduceLT, Nat.reduceEqDiff, Int.reduceLT, Int.reduceLE, Int.reduceAdd, Int.reduceSub, Int.reduceMul, Int.reduceToNat, reduceIte, reduceCtorEq, Nat.reduceBEq, v88_4, v88_7, v88_5, h0, g1]
    refine run_drw (by kernel_rfl) ?_
    refine drun_drive 40 (p := (_, _)) ?_
    simp only [go_sem, Nat.reduceAdd, Nat.reduceSub, Nat.reduceLeDiff, Nat.reduceMul, Nat.reduceLT, Nat.reduceEqDiff, Int.reduceLT, Int.reduceLE, Int.reduceAdd, Int.reduceSub, Int.reduceMul, Int.reduceToNat, reduceIte, reduceCtorEq, Nat.reduceBEq, v88_6, h0, g1, g2]
    refine drun_call' ?_
    simp only [go_sem, Nat.reduceAdd, Nat.reduceSub, Nat.reduceLeDiff, Nat.reduceMul, Nat.reduceLT, Nat.reduceEqDiff, Int.reduceLT, Int.reduceLE, Int.reduceAdd, Int.reduceSub, Int.reduceMul, Int.reduceToNat, reduceIte, reduceCtorEq, Nat.reduceBEq, calV, m_times]
    refine line_times hG _ _ (hf i) hx ?_
    refine drun_drive 40 (p := (_, _)) ?_
    simp only [go_sem, Nat.reduceAdd, Nat.reduceSub, Nat.reduceLeDiff, Nat.reduceMul, Nat.reduceLT, Nat.reduceEqDiff, Int.reduceLT, Int.reduceLE, Int.reduceAdd, Int.reduceSub, Int.reduceMul, Int.reduceToNat, reduceIte, reduceCtorEq, Nat.reduceBEq, g2]
    refine drun_call' ?_
    simp only [go_sem, Nat.reduceAdd, Nat.reduceSub, Nat.reduceLeDiff, Nat.reduceMul, Nat.reduceLT, Nat.reduceEqDiff, Int.reduceLT, Int.reduceLE, Int.reduceAdd, Int.reduceSub, Int.reduceMul, Int.reduceToNat, reduceIte, reduceCtorEq, Nat.reduceBEq, calV, m_times]
    refine line_times hG _ _ (hf (m + i)) hy ?_
    refine drun_drive 40 (p := (_, _)) ?_
    simp only [go_sem, Nat.reduceAdd, Nat.reduceSub, Nat.reduceLeDiff, Nat.reduceMul, Nat.reduceLT, Nat.reduceEqDiff, Int.reduceLT, Int.reduceLE, Int.reduceAdd, Int.reduceSub, Int.reduceMul, Int.reduceToNat, reduceIte, reduceCtorEq, Nat.reduceBEq]
    refine drun_call' ?_
    simp only [go_sem, Nat.reduceAdd, Nat.reduceSub, Nat.reduceLeDiff, Nat.reduceMul, Nat.reduceLT, Nat.reduceEqDiff, Int.reduceLT, Int.reduceLE, Int.reduceAdd, Int.reduceSub, Int.reduceMul, Int.reduceToNat, reduceIte, reduceCtorEq, Nat.reduceBEq, calV, m_add]
    refine line_add hG _ _ (mod_lt _) (mod_lt _) ?_
    rw [show (f i * x % ell + f (m + i) * y % ell) % ell = fe x y m f i from rfl]
    refine drun_drive 40 (p := (_, _)) ?_
    simp only [go_sem, Nat.reduceAdd, Nat.reduceSub, Nat.reduceLeDiff, Nat.reduceMul, Nat.reduceLT, Nat.reduceEqDiff, Int.reduceLT, Int.reduceLE, Int.reduceAdd, Int.reduceSub, Int.reduceMul, Int.reduceToNat, reduceIte, reduceCtorEq, Nat.reduceBEq, h0, b1, hin, hset]
    refine drun_end ?_
    refine run_driveS 80 ?_
    simp only [go_sem, Nat.reduceAdd, Nat.reduceSub, Nat.reduceLeDiff, Nat.reduceMul, Nat.reduceLT, Nat.reduceEqDiff, Int.reduceLT, Int.reduceLE, Int.reduceAdd, Int.reduceSub, Int.reduceMul, Int.reduceToNat, reduceIte, reduceCtorEq, Nat.reduceBEq, v88_8, hw]
    refine run_rename [0, 1, 2, 3] rfl (by simp) ?_ ?_ ?_ (ih)
    · simp only [go_sem, Nat.reduceAdd, Nat.reduceSub, Nat.reduceLeDiff, Nat.reduceMul, Nat.reduceLT, Nat.reduceEqDiff, Int.reduceLT, Int.reduceLE, Int.reduceAdd, Int.reduceSub, Int.reduceMul, Int.reduceToNat, reduceIte, reduceCtorEq, Nat.reduceBEq, hfit, lc_fit, scs_fit, fit, ren, gmap, lw_plain, true_or, or_true]
    · simp [uniq, wrB]
    · simp only [go_sem, Nat.reduceAdd, Nat.reduceSub, Nat.reduceLeDiff, Nat.reduceMul, Nat.reduceLT, Nat.reduceEqDiff, Int.reduceLT, Int.reduceLE, Int.reduceAdd, Int.reduceSub, Int.reduceMul, Int.reduceToNat, reduceIte, reduceCtorEq, Nat.reduceBEq, hfit, lc_fit, scs_fit, fit, ren, gmap, lw_plain, true_or, or_true]
  · have h0 : ((m : Int) < (m : Int)) = False := eq_false (by omega)
    refine run_loop_eq v88_9.eq_1 ?_
    refine run_driveS 80 ?_
    simp only [go_sem, Nat.reduceAdd, Nat.reduceSub, Nat.reduceLeDiff, Nat.reduceMul, Nat.reduceLT, Nat.reduceEqDiff, Int.reduceLT, Int.reduceLE, Int.reduceAdd, Int.reduceSub, Int.reduceMul, Int.reduceToNat, reduceIte, reduceCtorEq, Nat.reduceBEq, v88_4, h0]
    refine run_exit rfl ?_
    refine run_driveS 80 ?_
    simp only [go_sem, Nat.reduceAdd, Nat.reduceSub, Nat.reduceLeDiff, Nat.reduceMul, Nat.reduceLT, Nat.reduceEqDiff, Int.reduceLT, Int.reduceLE, Int.reduceAdd, Int.reduceSub, Int.reduceMul, Int.reduceToNat, reduceIte, reduceCtorEq, Nat.reduceBEq, v88_11]
    rw [show (scs m fun j => if j < m then fe x y m f j else 0) = scs m (fe x y m f) from scs_congr fun j hj => if_pos hj]
    refine run_ret_drop Tryd.func88 res88 [0, 3] (.sl 1 0 m (.exact m)) _ rfl (by simp) ?_ ?_ ?_ (hQ)
    · simp only [go_sem, Nat.reduceAdd, Nat.reduceSub, Nat.reduceLeDiff, Nat.reduceMul, Nat.reduceLT, Nat.reduceEqDiff, Int.reduceLT, Int.reduceLE, Int.reduceAdd, Int.reduceSub, Int.reduceMul, Int.reduceToNat, reduceIte, reduceCtorEq, Nat.reduceBEq, hfit, lc_fit, scs_fit, fit, ren, gmap, lw_plain, true_or, or_true]
    · simp [uniq, wrB]
    · simp only [go_sem, Nat.reduceAdd, Nat.reduceSub, Nat.reduceLeDiff, Nat.reduceMul, Nat.reduceLT, Nat.reduceEqDiff, Int.reduceLT, Int.reduceLE, Int.reduceAdd, Int.reduceSub, Int.reduceMul, Int.reduceToNat, reduceIte, reduceCtorEq, Nat.reduceBEq, rr88, ren, rens, gmap]
end Go.Vs.Tryd
