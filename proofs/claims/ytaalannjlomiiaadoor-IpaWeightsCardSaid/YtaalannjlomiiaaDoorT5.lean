/- T5: what the functions of the program answer, over the machine of plain values. -/
import Derived.Test.YtaalannjlomiiaaDoorT4
import Derived.Test.YtaalannjlomiiaaDoorM3
set_option linter.unusedVariables false
set_option linter.unusedSimpArgs false
namespace Go.Vs.Tryd
open Go.Proofs
variable {G : Nat → List V}
set_option linter.unusedSimpArgs false
attribute [local go_sem] drive stepV exo expo evs fillV isNil nilKind eqV eqL optA optM sliceAtV ev kn V.known V.one ldc stc splice cellsOf asK asN asB asS asG asT appV srcV lenV setd wantV exitV rvs rv one List.length_cons List.length_nil List.cons_append List.nil_append List.append_nil List.replicate List.getD_cons_zero List.getD_cons_succ List.set_cons_zero List.set_cons_succ List.getElem?_cons_zero List.getElem?_cons_succ List.getElem?_nil List.take_succ_cons List.take_zero List.take_nil List.drop_succ_cons List.drop_zero List.drop_nil List.all_cons List.all_nil List.any_cons List.any_nil Bool.and_true Bool.true_and Bool.and_self Option.map_some Option.map_none Option.bind_some Option.some.injEq Nat.add_zero Nat.zero_add Int.toNat_zero Int.toNat_one Int.zero_add Int.add_zero if_true if_false ite_true ite_false and_true true_and and_self ne_eq not_false_eq_true not_true_eq_false decide_true decide_false Bool.false_eq_true Bool.not_true Bool.not_false beq_self_eq_true BEq.rfl Bool.not_eq_true Nat.le_refl Int.le_refl Nat.zero_le List.foldl List.map_cons List.map_nil Prod.mk.injEq Int.cast_ofNat_Int Int.zero_le_ofNat b_add_cc b_add_cl b_add_lc b_mul_cc b_mul_cl b_mul_lc b_sub_cc b_sub_cl b_sub_lc b_and_cc b_and_cl b_and_lc b_or_cc b_or_cl b_or_lc b_xor_cc b_xor_cl b_xor_lc b_andNot_cc b_andNot_cl b_andNot_lc b_shr_cc b_shr_cl b_shr_lc b_shl_cc b_shl_cl b_shl_lc b_lss b_leq b_gtr b_geq b_add_i b_sub_i b_mul_i beq_cc beq_cl beq_lc beq_ll b_quo_i b_rem_i neg_u64 wrap_i64 driveD stepD idsAt idOf maskH_nil restore_nil restore_mask List.filterMap_nil List.filterMap_cons VOp.looks VOp.makes exA
set_option maxRecDepth 100000
theorem add64_c (x y c : Nat) (hc : c ≤ 1) (hx : x < 18446744073709551616) (hy : y < 18446744073709551616) (xi : Int) (hxi : xi = (x : Int)) (ci : Int) (hci : ci = (c : Int)) {h : Heap} {R : V → Heap → Prop} (hq : ∀ d b : Nat, d < 18446744073709551616 → b ≤ 1 → x + y + c = 18446744073709551616 * b + d → R (.tup [.int .u64 (d : Int), .int .u64 (b : Int)]) h) : VCall Tryd.prog G 32 [.int .u64 xi, .int .u64 (y : Int), .int .u64 ci] h R := by
  subst hxi; exact add64 x y c ci hci hc hx hy hq
theorem mont_law {A b0 b1 b2 b3 m0 m1 m2 m3 Z1 Z2 Z3 Z4 R : Nat} (h0 : 18446744073709551616 * Z1 = (0 + 18446744073709551616 * 0 + 340282366920938463463374607431768211456 * 0 + 6277101735386680763835789423207666416102355444464034512896 * 0) + A * b0 + m0 * 7237005577332262213973186563042994240857116359379907606001950938285454250989) (h1 : 18446744073709551616 * Z2 = Z1 + A * b1 + m1 * 7237005577332262213973186563042994240857116359379907606001950938285454250989) (h2 : 18446744073709551616 * Z3 = Z2 + A * b2 + m2 * 7237005577332262213973186563042994240857116359379907606001950938285454250989) (h3 : 18446744073709551616 * Z4 = Z3 + A * b3 + m3 * 7237005577332262213973186563042994240857116359379907606001950938285454250989) (hR : R = Z4 ∨ R + ell = Z4) :
    ∃ x y : Nat, 115792089237316195423570985008687907853269984665640564039457584007913129639936 * R + ell * x = A * (b0 + 18446744073709551616 * b1 + 340282366920938463463374607431768211456 * b2 + 6277101735386680763835789423207666416102355444464034512896 * b3) + ell * y := by
  have hb : A * (b0 + 18446744073709551616 * b1 + 340282366920938463463374607431768211456 * b2 + 6277101735386680763835789423207666416102355444464034512896 * b3) = A * b0 + 18446744073709551616 * (A * b1) + 340282366920938463463374607431768211456 * (A * b2) + 6277101735386680763835789423207666416102355444464034512896 * (A * b3) := by grind
  have hell : ell = 7237005577332262213973186563042994240857116359379907606001950938285454250989 := rfl
  rw [hb]
  generalize A * b0 = p0 at *
  generalize A * b1 = p1 at *
  generalize A * b2 = p2 at *
  generalize A * b3 = p3 at *
  have e : 115792089237316195423570985008687907853269984665640564039457584007913129639936 * Z4 = p0 + 18446744073709551616 * p1 + 340282366920938463463374607431768211456 * p2 + 6277101735386680763835789423207666416102355444464034512896 * p3 + ell * (m0 + 18446744073709551616 * m1 + 340282366920938463463374607431768211456 * m2 + 6277101735386680763835789423207666416102355444464034512896 * m3) := by rw [hell]; omega
  rcases hR with rfl | hR
  · exact ⟨0, _, e⟩
  · exact ⟨115792089237316195423570985008687907853269984665640564039457584007913129639936, _, by rw [← e, ← hR]; rw [hell]; omega⟩
theorem nl_zero : nl 0 = ((0 : Nat) : Int) := rfl
set_option maxHeartbeats 4000000
theorem product0 (hG : G 0 = tbl) (a0 a1 a2 a3 b0 b1 b2 b3 : Nat) (ha0 : a0 < 18446744073709551616) (ha1 : a1 < 18446744073709551616) (ha2 : a2 < 18446744073709551616) (ha3 : a3 < 18446744073709551616) (hb0 : b0 < 18446744073709551616) (hb1 : b1 < 18446744073709551616) (hb2 : b2 < 18446744073709551616) (hb3 : b3 < 18446744073709551616) (hA : (a0 + 18446744073709551616 * a1 + 340282366920938463463374607431768211456 * a2 + 6277101735386680763835789423207666416102355444464034512896 * a3) < 7237005577332262213973186563042994240857116359379907606001950938285454250989) (Q : V → Heap → Prop) (hQ : ∀ R : Nat, R < ell → (∃ x y : Nat, 115792089237316195423570985008687907853269984665640564039457584007913129639936 * R + ell * x = (a0 + 18446744073709551616 * a1 + 340282366920938463463374607431768211456 * a2 + 6277101735386680763835789423207666416102355444464034512896 * a3) * (b0 + 18446744073709551616 * b1 + 340282366920938463463374607431768211456 * b2 + 6277101735386680763835789423207666416102355444464034512896 * b3) + ell * y) → Q (lw R) []) : VCall Tryd.prog G 22 [.agg [.int .u64 (a0 : Int), .int .u64 (a1 : Int), .int .u64 (a2 : Int), .int .u64 (a3 : Int)], .agg [.int .u64 (b0 : Int), .int .u64 (b1 : Int), .int .u64 (b2 : Int), .int .u64 (b3 : Int)]] [] Q := by
  refine vcall_body Tryd.func22 nm22 code22 nt22 ?_
  refine run_drive 40 ?_
  simp only [go_sem, Nat.reduceAdd, Nat.reduceSub, Nat.reduceLeDiff, Nat.reduceMul, Nat.reduceLT, Nat.reduceEqDiff, Int.reduceLT, Int.reduceLE, Int.reduceAdd, Int.reduceSub, Int.reduceMul, Int.reduceToNat, reduceIte, reduceCtorEq, Nat.reduceBEq, v22, v22_0, v22_1, v22_2, v22_30]
  refine run_loop ?_
  refine run_drive 40 ?_
  simp only [go_sem, Nat.reduceAdd, Nat.reduceSub, Nat.reduceLeDiff, Nat.reduceMul, Nat.reduceLT, Nat.reduceEqDiff, Int.reduceLT, Int.reduceLE, Int.reduceAdd, Int.reduceSub, Int.reduceMul, Int.reduceToNat, reduceIte, reduceCtorEq, Nat.reduceBEq, v22_29, v22_3, v22_27, v22_4, v22_5, v22_6, v22_13]
  refine run_loop ?_
  refine run_drive 40 ?_
  simp only [go_sem, Nat.reduceAdd, Nat.reduceSub, Nat.reduceLeDiff, Nat.reduceMul, Nat.reduceLT, Nat.reduceEqDiff, Int.reduceLT, Int.reduceLE, Int.reduceAdd, Int.reduceSub, Int.reduceMul, Int.reduceToNat, reduceIte, reduceCtorEq, Nat.reduceBEq, v22_12, v22_7, v22_8, v22_10]
  refine run_drw (by kernel_rfl) ?_
  refine drun_drive 30 (p := (_, _)) ?_
  simp only [go_sem, Nat.reduceAdd, Nat.reduceSub, Nat.reduceLeDiff, Nat.reduceMul, Nat.reduceLT, Nat.reduceEqDiff, Int.reduceLT, Int.reduceLE, Int.reduceAdd, Int.reduceSub, Int.reduceMul, Int.reduceToNat, reduceIte, reduceCtorEq, Nat.reduceBEq, v22_9]
  refine drun_call' ?_
  simp only [go_sem, Nat.reduceAdd, Nat.reduceSub, Nat.reduceLeDiff, Nat.reduceMul, Nat.reduceLT, Nat.reduceEqDiff, Int.reduceLT, Int.reduceLE, Int.reduceAdd, Int.reduceSub, Int.reduceMul, Int.reduceToNat, reduceIte, reduceCtorEq, Nat.reduceBEq, calV]
  refine into' _ _ _ _ ha0 hb0 (by decide : (0 : Nat) < 18446744073709551616) (by decide : (0 : Nat) < 18446744073709551616) _ rfl _ rfl ?_
  intro s00 c00 hs00 hc00 e00
  refine drun_drive 20 (p := (_, _)) ?_
  simp only [go_sem, Nat.reduceAdd, Nat.reduceSub, Nat.reduceLeDiff, Nat.reduceMul, Nat.reduceLT, Nat.reduceEqDiff, Int.reduceLT, Int.reduceLE, Int.reduceAdd, Int.reduceSub, Int.reduceMul, Int.reduceToNat, reduceIte, reduceCtorEq, Nat.reduceBEq]
  refine drun_end ?_
  refine run_drive 40 ?_
  simp only [go_sem, Nat.reduceAdd, Nat.reduceSub, Nat.reduceLeDiff, Nat.reduceMul, Nat.reduceLT, Nat.reduceEqDiff, Int.reduceLT, Int.reduceLE, Int.reduceAdd, Int.reduceSub, Int.reduceMul, Int.reduceToNat, reduceIte, reduceCtorEq, Nat.reduceBEq, v22_11]
  refine run_loop ?_
  refine run_drive 40 ?_
  simp only [go_sem, Nat.reduceAdd, Nat.reduceSub, Nat.reduceLeDiff, Nat.reduceMul, Nat.reduceLT, Nat.reduceEqDiff, Int.reduceLT, Int.reduceLE, Int.reduceAdd, Int.reduceSub, Int.reduceMul, Int.reduceToNat, reduceIte, reduceCtorEq, Nat.reduceBEq, v22_12, v22_7, v22_8, v22_10]
  refine run_drw (by kernel_rfl) ?_
  refine drun_drive 30 (p := (_, _)) ?_
  simp only [go_sem, Nat.reduceAdd, Nat.reduceSub, Nat.reduceLeDiff, Nat.reduceMul, Nat.reduceLT, Nat.reduceEqDiff, Int.reduceLT, Int.reduceLE, Int.reduceAdd, Int.reduceSub, Int.reduceMul, Int.reduceToNat, reduceIte, reduceCtorEq, Nat.reduceBEq, v22_9]
  refine drun_call' ?_
  simp only [go_sem, Nat.reduceAdd, Nat.reduceSub, Nat.reduceLeDiff, Nat.reduceMul, Nat.reduceLT, Nat.reduceEqDiff, Int.reduceLT, Int.reduceLE, Int.reduceAdd, Int.reduceSub, Int.reduceMul, Int.reduceToNat, reduceIte, reduceCtorEq, Nat.reduceBEq, calV]
  refine into' _ _ _ _ ha1 hb0 (by decide : (0 : Nat) < 18446744073709551616) hc00 _ rfl _ rfl ?_
  intro s01 c01 hs01 hc01 e01
  refine drun_drive 20 (p := (_, _)) ?_
  simp only [go_sem, Nat.reduceAdd, Nat.reduceSub, Nat.reduceLeDiff, Nat.reduceMul, Nat.reduceLT, Nat.reduceEqDiff, Int.reduceLT, Int.reduceLE, Int.reduceAdd, Int.reduceSub, Int.reduceMul, Int.reduceToNat, reduceIte, reduceCtorEq, Nat.reduceBEq]
  refine drun_end ?_
  refine run_drive 40 ?_
  simp only [go_sem, Nat.reduceAdd, Nat.reduceSub, Nat.reduceLeDiff, Nat.reduceMul, Nat.reduceLT, Nat.reduceEqDiff, Int.reduceLT, Int.reduceLE, Int.reduceAdd, Int.reduceSub, Int.reduceMul, Int.reduceToNat, reduceIte, reduceCtorEq, Nat.reduceBEq, v22_11]
  refine run_loop ?_
  refine run_drive 40 ?_
  simp only [go_sem, Nat.reduceAdd, Nat.reduceSub, Nat.reduceLeDiff, Nat.reduceMul, Nat.reduceLT, Nat.reduceEqDiff, Int.reduceLT, Int.reduceLE, Int.reduceAdd, Int.reduceSub, Int.reduceMul, Int.reduceToNat, reduceIte, reduceCtorEq, Nat.reduceBEq, v22_12, v22_7, v22_8, v22_10]
  refine run_drw (by kernel_rfl) ?_
  refine drun_drive 30 (p := (_, _)) ?_
  simp only [go_sem, Nat.reduceAdd, Nat.reduceSub, Nat.reduceLeDiff, Nat.reduceMul, Nat.reduceLT, Nat.reduceEqDiff, Int.reduceLT, Int.reduceLE, Int.reduceAdd, Int.reduceSub, Int.reduceMul, Int.reduceToNat, reduceIte, reduceCtorEq, Nat.reduceBEq, v22_9]
  refine drun_call' ?_
  simp only [go_sem, Nat.reduceAdd, Nat.reduceSub, Nat.reduceLeDiff, Nat.reduceMul, Nat.reduceLT, Nat.reduceEqDiff, Int.reduceLT, Int.reduceLE, Int.reduceAdd, Int.reduceSub, Int.reduceMul, Int.reduceToNat, reduceIte, reduceCtorEq, Nat.reduceBEq, calV]
  refine into' _ _ _ _ ha2 hb0 (by decide : (0 : Nat) < 18446744073709551616) hc01 _ rfl _ rfl ?_
  intro s02 c02 hs02 hc02 e02
  refine drun_drive 20 (p := (_, _)) ?_
  simp only [go_sem, Nat.reduceAdd, Nat.reduceSub, Nat.reduceLeDiff, Nat.reduceMul, Nat.reduceLT, Nat.reduceEqDiff, Int.reduceLT, Int.reduceLE, Int.reduceAdd, Int.reduceSub, Int.reduceMul, Int.reduceToNat, reduceIte, reduceCtorEq, Nat.reduceBEq]
  refine drun_end ?_
  refine run_drive 40 ?_
  simp only [go_sem, Nat.reduceAdd, Nat.reduceSub, Nat.reduceLeDiff, Nat.reduceMul, Nat.reduceLT, Nat.reduceEqDiff, Int.reduceLT, Int.reduceLE, Int.reduceAdd, Int.reduceSub, Int.reduceMul, Int.reduceToNat, reduceIte, reduceCtorEq, Nat.reduceBEq, v22_11]
  refine run_loop ?_
  refine run_drive 40 ?_
  simp only [go_sem, Nat.reduceAdd, Nat.reduceSub, Nat.reduceLeDiff, Nat.reduceMul, Nat.reduceLT, Nat.reduceEqDiff, Int.reduceLT, Int.reduceLE, Int.reduceAdd, Int.reduceSub, Int.reduceMul, Int.reduceToNat, reduceIte, reduceCtorEq, Nat.reduceBEq, v22_12, v22_7, v22_8, v22_10]
  refine run_drw (by kernel_rfl) ?_
  refine drun_drive 30 (p := (_, _)) ?_
  simp only [go_sem, Nat.reduceAdd, Nat.reduceSub, Nat.reduceLeDiff, Nat.reduceMul, Nat.reduceLT, Nat.reduceEqDiff, Int.reduceLT, Int.reduceLE, Int.reduceAdd, Int.reduceSub, Int.reduceMul, Int.reduceToNat, reduceIte, reduceCtorEq, Nat.reduceBEq, v22_9]
  refine drun_call' ?_
  simp only [go_sem, Nat.reduceAdd, Nat.reduceSub, Nat.reduceLeDiff, Nat.reduceMul, Nat.reduceLT, Nat.reduceEqDiff, Int.reduceLT, Int.reduceLE, Int.reduceAdd, Int.reduceSub, Int.reduceMul, Int.reduceToNat, reduceIte, reduceCtorEq, Nat.reduceBEq, calV]
  refine into' _ _ _ _ ha3 hb0 (by decide : (0 : Nat) < 18446744073709551616) hc02 _ rfl _ rfl ?_
  intro s03 c03 hs03 hc03 e03
  refine drun_drive 20 (p := (_, _)) ?_
  simp only [go_sem, Nat.reduceAdd, Nat.reduceSub, Nat.reduceLeDiff, Nat.reduceMul, Nat.reduceLT, Nat.reduceEqDiff, Int.reduceLT, Int.reduceLE, Int.reduceAdd, Int.reduceSub, Int.reduceMul, Int.reduceToNat, reduceIte, reduceCtorEq, Nat.reduceBEq]
  refine drun_end ?_
  refine run_drive 40 ?_
  simp only [go_sem, Nat.reduceAdd, Nat.reduceSub, Nat.reduceLeDiff, Nat.reduceMul, Nat.reduceLT, Nat.reduceEqDiff, Int.reduceLT, Int.reduceLE, Int.reduceAdd, Int.reduceSub, Int.reduceMul, Int.reduceToNat, reduceIte, reduceCtorEq, Nat.reduceBEq, v22_11]
  refine run_loop ?_
  refine run_drive 40 ?_
  simp only [go_sem, Nat.reduceAdd, Nat.reduceSub, Nat.reduceLeDiff, Nat.reduceMul, Nat.reduceLT, Nat.reduceEqDiff, Int.reduceLT, Int.reduceLE, Int.reduceAdd, Int.reduceSub, Int.reduceMul, Int.reduceToNat, reduceIte, reduceCtorEq, Nat.reduceBEq, v22_12, v22_7, v22_14]
  refine run_call' rfl ?_
  simp only [go_sem, Nat.reduceAdd, Nat.reduceSub, Nat.reduceLeDiff, Nat.reduceMul, Nat.reduceLT, Nat.reduceEqDiff, Int.reduceLT, Int.reduceLE, Int.reduceAdd, Int.reduceSub, Int.reduceMul, Int.reduceToNat, reduceIte, reduceCtorEq, Nat.reduceBEq, calV]
  refine add64_c 0 c03 0 (by decide) (by decide) hc03 _ rfl _ rfl ?_
  intro s04 k04 hs04 hk04 e04
  refine run_drive 40 ?_
  simp only [go_sem, Nat.reduceAdd, Nat.reduceSub, Nat.reduceLeDiff, Nat.reduceMul, Nat.reduceLT, Nat.reduceEqDiff, Int.reduceLT, Int.reduceLE, Int.reduceAdd, Int.reduceSub, Int.reduceMul, Int.reduceToNat, reduceIte, reduceCtorEq, Nat.reduceBEq, v22_15, v22_16, v22_17, hG, tbl]
  refine run_call' rfl ?_
  simp only [go_sem, Nat.reduceAdd, Nat.reduceSub, Nat.reduceLeDiff, Nat.reduceMul, Nat.reduceLT, Nat.reduceEqDiff, Int.reduceLT, Int.reduceLE, Int.reduceAdd, Int.reduceSub, Int.reduceMul, Int.reduceToNat, reduceIte, reduceCtorEq, Nat.reduceBEq, calV]
  refine into' (w64 (s00 * 15183074304973897243)) 6346243789798364141 s00 0 (Nat.mod_lt _ (by decide)) (by decide) hs00 (by decide) _ rfl _ rfl ?_
  intro z00 d00 hz00 hd00 f00
  refine run_drive 40 ?_
  simp only [go_sem, Nat.reduceAdd, Nat.reduceSub, Nat.reduceLeDiff, Nat.reduceMul, Nat.reduceLT, Nat.reduceEqDiff, Int.reduceLT, Int.reduceLE, Int.reduceAdd, Int.reduceSub, Int.reduceMul, Int.reduceToNat, reduceIte, reduceCtorEq, Nat.reduceBEq, v22_18, v22_24]
  refine run_loop ?_
  refine run_drive 40 ?_
  simp only [go_sem, Nat.reduceAdd, Nat.reduceSub, Nat.reduceLeDiff, Nat.reduceMul, Nat.reduceLT, Nat.reduceEqDiff, Int.reduceLT, Int.reduceLE, Int.reduceAdd, Int.reduceSub, Int.reduceMul, Int.reduceToNat, reduceIte, reduceCtorEq, Nat.reduceBEq, v22_23, v22_19, v22_21]
  refine run_drw (by kernel_rfl) ?_
  refine drun_drive 30 (p := (_, _)) ?_
  simp only [go_sem, Nat.reduceAdd, Nat.reduceSub, Nat.reduceLeDiff, Nat.reduceMul, Nat.reduceLT, Nat.reduceEqDiff, Int.reduceLT, Int.reduceLE, Int.reduceAdd, Int.reduceSub, Int.reduceMul, Int.reduceToNat, reduceIte, reduceCtorEq, Nat.reduceBEq, v22_20, hG, tbl]
  refine drun_call' ?_
  simp only [go_sem, Nat.reduceAdd, Nat.reduceSub, Nat.reduceLeDiff, Nat.reduceMul, Nat.reduceLT, Nat.reduceEqDiff, Int.reduceLT, Int.reduceLE, Int.reduceAdd, Int.reduceSub, Int.reduceMul, Int.reduceToNat, reduceIte, reduceCtorEq, Nat.reduceBEq, calV]
  refine into' (w64 (s00 * 15183074304973897243)) 1503914060200516822 s01 d00 (Nat.mod_lt _ (by decide)) (by decide) hs01 hd00 _ rfl _ rfl ?_
  intro z01 d01 hz01 hd01 f01
  refine drun_drive 20 (p := (_, _)) ?_
  simp only [go_sem, Nat.reduceAdd, Nat.reduceSub, Nat.reduceLeDiff, Nat.reduceMul, Nat.reduceLT, Nat.reduceEqDiff, Int.reduceLT, Int.reduceLE, Int.reduceAdd, Int.reduceSub, Int.reduceMul, Int.reduceToNat, reduceIte, reduceCtorEq, Nat.reduceBEq]
  refine drun_end ?_
  refine run_drive 40 ?_
  simp only [go_sem, Nat.reduceAdd, Nat.reduceSub, Nat.reduceLeDiff, Nat.reduceMul, Nat.reduceLT, Nat.reduceEqDiff, Int.reduceLT, Int.reduceLE, Int.reduceAdd, Int.reduceSub, Int.reduceMul, Int.reduceToNat, reduceIte, reduceCtorEq, Nat.reduceBEq, v22_22]
  refine run_loop ?_
  refine run_drive 40 ?_
  simp only [go_sem, Nat.reduceAdd, Nat.reduceSub, Nat.reduceLeDiff, Nat.reduceMul, Nat.reduceLT, Nat.reduceEqDiff, Int.reduceLT, Int.reduceLE, Int.reduceAdd, Int.reduceSub, Int.reduceMul, Int.reduceToNat, reduceIte, reduceCtorEq, Nat.reduceBEq, v22_23, v22_19, v22_21]
  refine run_drw (by kernel_rfl) ?_
  refine drun_drive 30 (p := (_, _)) ?_
  simp only [go_sem, Nat.reduceAdd, Nat.reduceSub, Nat.reduceLeDiff, Nat.reduceMul, Nat.reduceLT, Nat.reduceEqDiff, Int.reduceLT, Int.reduceLE, Int.reduceAdd, Int.reduceSub, Int.reduceMul, Int.reduceToNat, reduceIte, reduceCtorEq, Nat.reduceBEq, v22_20, hG, tbl]
  refine drun_call' ?_
  simp only [go_sem, Nat.reduceAdd, Nat.reduceSub, Nat.reduceLeDiff, Nat.reduceMul, Nat.reduceLT, Nat.reduceEqDiff, Int.reduceLT, Int.reduceLE, Int.reduceAdd, Int.reduceSub, Int.reduceMul, Int.reduceToNat, reduceIte, reduceCtorEq, Nat.reduceBEq, calV]
  refine into' (w64 (s00 * 15183074304973897243)) 0 s02 d01 (Nat.mod_lt _ (by decide)) (by decide) hs02 hd01 _ rfl _ rfl ?_
  intro z02 d02 hz02 hd02 f02
  refine drun_drive 20 (p := (_, _)) ?_
  simp only [go_sem, Nat.reduceAdd, Nat.reduceSub, Nat.reduceLeDiff, Nat.reduceMul, Nat.reduceLT, Nat.reduceEqDiff, Int.reduceLT, Int.reduceLE, Int.reduceAdd, Int.reduceSub, Int.reduceMul, Int.reduceToNat, reduceIte, reduceCtorEq, Nat.reduceBEq]
  refine drun_end ?_
  refine run_drive 40 ?_
  simp only [go_sem, Nat.reduceAdd, Nat.reduceSub, Nat.reduceLeDiff, Nat.reduceMul, Nat.reduceLT, Nat.reduceEqDiff, Int.reduceLT, Int.reduceLE, Int.reduceAdd, Int.reduceSub, Int.reduceMul, Int.reduceToNat, reduceIte, reduceCtorEq, Nat.reduceBEq, v22_22]
  refine run_loop ?_
  refine run_drive 40 ?_
  simp only [go_sem, Nat.reduceAdd, Nat.reduceSub, Nat.reduceLeDiff, Nat.reduceMul, Nat.reduceLT, Nat.reduceEqDiff, Int.reduceLT, Int.reduceLE, Int.reduceAdd, Int.reduceSub, Int.reduceMul, Int.reduceToNat, reduceIte, reduceCtorEq, Nat.reduceBEq, v22_23, v22_19, v22_21]
  refine run_drw (by kernel_rfl) ?_
  refine drun_drive 30 (p := (_, _)) ?_
  simp only [go_sem, Nat.reduceAdd, Nat.reduceSub, Nat.reduceLeDiff, Nat.reduceMul, Nat.reduceLT, Nat.reduceEqDiff, Int.reduceLT, Int.reduceLE, Int.reduceAdd, Int.reduceSub, Int.reduceMul, Int.reduceToNat, reduceIte, reduceCtorEq, Nat.reduceBEq, v22_20, hG, tbl]
  refine drun_call' ?_
  simp only [go_sem, Nat.reduceAdd, Nat.reduceSub, Nat.reduceLeDiff, Nat.reduceMul, Nat.reduceLT, Nat.reduceEqDiff, Int.reduceLT, Int.reduceLE, Int.reduceAdd, Int.reduceSub, Int.reduceMul, Int.reduceToNat, reduceIte, reduceCtorEq, Nat.reduceBEq, calV]
  refine into' (w64 (s00 * 15183074304973897243)) 1152921504606846976 s03 d02 (Nat.mod_lt _ (by decide)) (by decide) hs03 hd02 _ rfl _ rfl ?_
  intro z03 d03 hz03 hd03 f03
  refine drun_drive 20 (p := (_, _)) ?_
  simp only [go_sem, Nat.reduceAdd, Nat.reduceSub, Nat.reduceLeDiff, Nat.reduceMul, Nat.reduceLT, Nat.reduceEqDiff, Int.reduceLT, Int.reduceLE, Int.reduceAdd, Int.reduceSub, Int.reduceMul, Int.reduceToNat, reduceIte, reduceCtorEq, Nat.reduceBEq]
  refine drun_end ?_
  refine run_drive 40 ?_
  simp only [go_sem, Nat.reduceAdd, Nat.reduceSub, Nat.reduceLeDiff, Nat.reduceMul, Nat.reduceLT, Nat.reduceEqDiff, Int.reduceLT, Int.reduceLE, Int.reduceAdd, Int.reduceSub, Int.reduceMul, Int.reduceToNat, reduceIte, reduceCtorEq, Nat.reduceBEq, v22_22]
  refine run_loop ?_
  refine run_drive 40 ?_
  simp only [go_sem, Nat.reduceAdd, Nat.reduceSub, Nat.reduceLeDiff, Nat.reduceMul, Nat.reduceLT, Nat.reduceEqDiff, Int.reduceLT, Int.reduceLE, Int.reduceAdd, Int.reduceSub, Int.reduceMul, Int.reduceToNat, reduceIte, reduceCtorEq, Nat.reduceBEq, v22_23, v22_19, v22_25]
  refine run_call' rfl ?_
  simp only [go_sem, Nat.reduceAdd, Nat.reduceSub, Nat.reduceLeDiff, Nat.reduceMul, Nat.reduceLT, Nat.reduceEqDiff, Int.reduceLT, Int.reduceLE, Int.reduceAdd, Int.reduceSub, Int.reduceMul, Int.reduceToNat, reduceIte, reduceCtorEq, Nat.reduceBEq, calV]
  refine add64_c s04 d03 0 (by decide) hs04 hd03 _ rfl _ rfl ?_
  intro z04 k05 hz04 hk05 f04
  refine run_drive 40 ?_
  simp only [go_sem, Nat.reduceAdd, Nat.reduceSub, Nat.reduceLeDiff, Nat.reduceMul, Nat.reduceLT, Nat.reduceEqDiff, Int.reduceLT, Int.reduceLE, Int.reduceAdd, Int.reduceSub, Int.reduceMul, Int.reduceToNat, reduceIte, reduceCtorEq, Nat.reduceBEq, v22_26, v22_28]
  obtain ⟨w0, T0, m0, M0⟩ := round_law a0 a1 a2 a3 b0 0 0 0 0 s00 s01 s02 s03 s04 c00 c01 c02 c03 k04 z00 z01 z02 z03 z04 d00 d01 d02 d03 k05 hb0 hA (by decide) hs00 hz00 hz01 hz02 hz03 hz04 e00 e01 e02 e03 e04 f00 f01 f02 f03 f04
  rw [w0]
  clear e00 e01 e02 e03 e04 f00 f01 f02 f03 f04 w0
  refine run_loop ?_
  refine run_drive 40 ?_
  simp only [go_sem, Nat.reduceAdd, Nat.reduceSub, Nat.reduceLeDiff, Nat.reduceMul, Nat.reduceLT, Nat.reduceEqDiff, Int.reduceLT, Int.reduceLE, Int.reduceAdd, Int.reduceSub, Int.reduceMul, Int.reduceToNat, reduceIte, reduceCtorEq, Nat.reduceBEq, v22_29, v22_3, v22_27, v22_4, v22_5, v22_6, v22_13]
  refine run_loop ?_
  refine run_drive 40 ?_
  simp only [go_sem, Nat.reduceAdd, Nat.reduceSub, Nat.reduceLeDiff, Nat.reduceMul, Nat.reduceLT, Nat.reduceEqDiff, Int.reduceLT, Int.reduceLE, Int.reduceAdd, Int.reduceSub, Int.reduceMul, Int.reduceToNat, reduceIte, reduceCtorEq, Nat.reduceBEq, v22_12, v22_7, v22_8, v22_10]
  refine run_drw (by kernel_rfl) ?_
  refine drun_drive 30 (p := (_, _)) ?_
  simp only [go_sem, Nat.reduceAdd, Nat.reduceSub, Nat.reduceLeDiff, Nat.reduceMul, Nat.reduceLT, Nat.reduceEqDiff, Int.reduceLT, Int.reduceLE, Int.reduceAdd, Int.reduceSub, Int.reduceMul, Int.reduceToNat, reduceIte, reduceCtorEq, Nat.reduceBEq, v22_9]
  refine drun_call' ?_
  simp only [go_sem, Nat.reduceAdd, Nat.reduceSub, Nat.reduceLeDiff, Nat.reduceMul, Nat.reduceLT, Nat.reduceEqDiff, Int.reduceLT, Int.reduceLE, Int.reduceAdd, Int.reduceSub, Int.reduceMul, Int.reduceToNat, reduceIte, reduceCtorEq, Nat.reduceBEq, calV]
  refine into' _ _ _ _ ha0 hb1 hz01 (by decide : (0 : Nat) < 18446744073709551616) _ rfl _ rfl ?_
  intro s10 c10 hs10 hc10 e10
  refine drun_drive 20 (p := (_, _)) ?_
  simp only [go_sem, Nat.reduceAdd, Nat.reduceSub, Nat.reduceLeDiff, Nat.reduceMul, Nat.reduceLT, Nat.reduceEqDiff, Int.reduceLT, Int.reduceLE, Int.reduceAdd, Int.reduceSub, Int.reduceMul, Int.reduceToNat, reduceIte, reduceCtorEq, Nat.reduceBEq]
  refine drun_end ?_
  refine run_drive 40 ?_
  simp only [go_sem, Nat.reduceAdd, Nat.reduceSub, Nat.reduceLeDiff, Nat.reduceMul, Nat.reduceLT, Nat.reduceEqDiff, Int.reduceLT, Int.reduceLE, Int.reduceAdd, Int.reduceSub, Int.reduceMul, Int.reduceToNat, reduceIte, reduceCtorEq, Nat.reduceBEq, v22_11]
  refine run_loop ?_
  refine run_drive 40 ?_
  simp only [go_sem, Nat.reduceAdd, Nat.reduceSub, Nat.reduceLeDiff, Nat.reduceMul, Nat.reduceLT, Nat.reduceEqDiff, Int.reduceLT, Int.reduceLE, Int.reduceAdd, Int.reduceSub, Int.reduceMul, Int.reduceToNat, reduceIte, reduceCtorEq, Nat.reduceBEq, v22_12, v22_7, v22_8, v22_10]
  refine run_drw (by kernel_rfl) ?_
  refine drun_drive 30 (p := (_, _)) ?_
  simp only [go_sem, Nat.reduceAdd, Nat.reduceSub, Nat.reduceLeDiff, Nat.reduceMul, Nat.reduceLT, Nat.reduceEqDiff, Int.reduceLT, Int.reduceLE, Int.reduceAdd, Int.reduceSub, Int.reduceMul, Int.reduceToNat, reduceIte, reduceCtorEq, Nat.reduceBEq, v22_9]
  refine drun_call' ?_
  simp only [go_sem, Nat.reduceAdd, Nat.reduceSub, Nat.reduceLeDiff, Nat.reduceMul, Nat.reduceLT, Nat.reduceEqDiff, Int.reduceLT, Int.reduceLE, Int.reduceAdd, Int.reduceSub, Int.reduceMul, Int.reduceToNat, reduceIte, reduceCtorEq, Nat.reduceBEq, calV]
  refine into' _ _ _ _ ha1 hb1 hz02 hc10 _ rfl _ rfl ?_
  intro s11 c11 hs11 hc11 e11
  refine drun_drive 20 (p := (_, _)) ?_
  simp only [go_sem, Nat.reduceAdd, Nat.reduceSub, Nat.reduceLeDiff, Nat.reduceMul, Nat.reduceLT, Nat.reduceEqDiff, Int.reduceLT, Int.reduceLE, Int.reduceAdd, Int.reduceSub, Int.reduceMul, Int.reduceToNat, reduceIte, reduceCtorEq, Nat.reduceBEq]
  refine drun_end ?_
  refine run_drive 40 ?_
  simp only [go_sem, Nat.reduceAdd, Nat.reduceSub, Nat.reduceLeDiff, Nat.reduceMul, Nat.reduceLT, Nat.reduceEqDiff, Int.reduceLT, Int.reduceLE, Int.reduceAdd, Int.reduceSub, Int.reduceMul, Int.reduceToNat, reduceIte, reduceCtorEq, Nat.reduceBEq, v22_11]
  refine run_loop ?_
  refine run_drive 40 ?_
  simp only [go_sem, Nat.reduceAdd, Nat.reduceSub, Nat.reduceLeDiff, Nat.reduceMul, Nat.reduceLT, Nat.reduceEqDiff, Int.reduceLT, Int.reduceLE, Int.reduceAdd, Int.reduceSub, Int.reduceMul, Int.reduceToNat, reduceIte, reduceCtorEq, Nat.reduceBEq, v22_12, v22_7, v22_8, v22_10]
  refine run_drw (by kernel_rfl) ?_
  refine drun_drive 30 (p := (_, _)) ?_
  simp only [go_sem, Nat.reduceAdd, Nat.reduceSub, Nat.reduceLeDiff, Nat.reduceMul, Nat.reduceLT, Nat.reduceEqDiff, Int.reduceLT, Int.reduceLE, Int.reduceAdd, Int.reduceSub, Int.reduceMul, Int.reduceToNat, reduceIte, reduceCtorEq, Nat.reduceBEq, v22_9]
  refine drun_call' ?_
  simp only [go_sem, Nat.reduceAdd, Nat.reduceSub, Nat.reduceLeDiff, Nat.reduceMul, Nat.reduceLT, Nat.reduceEqDiff, Int.reduceLT, Int.reduceLE, Int.reduceAdd, Int.reduceSub, Int.reduceMul, Int.reduceToNat, reduceIte, reduceCtorEq, Nat.reduceBEq, calV]
  refine into' _ _ _ _ ha2 hb1 hz03 hc11 _ rfl _ rfl ?_
  intro s12 c12 hs12 hc12 e12
  refine drun_drive 20 (p := (_, _)) ?_
  simp only [go_sem, Nat.reduceAdd, Nat.reduceSub, Nat.reduceLeDiff, Nat.reduceMul, Nat.reduceLT, Nat.reduceEqDiff, Int.reduceLT, Int.reduceLE, Int.reduceAdd, Int.reduceSub, Int.reduceMul, Int.reduceToNat, reduceIte, reduceCtorEq, Nat.reduceBEq]
  refine drun_end ?_
  refine run_drive 40 ?_
  simp only [go_sem, Nat.reduceAdd, Nat.reduceSub, Nat.reduceLeDiff, Nat.reduceMul, Nat.reduceLT, Nat.reduceEqDiff, Int.reduceLT, Int.reduceLE, Int.reduceAdd, Int.reduceSub, Int.reduceMul, Int.reduceToNat, reduceIte, reduceCtorEq, Nat.reduceBEq, v22_11]
  refine run_loop ?_
  refine run_drive 40 ?_
  simp only [go_sem, Nat.reduceAdd, Nat.reduceSub, Nat.reduceLeDiff, Nat.reduceMul, Nat.reduceLT, Nat.reduceEqDiff, Int.reduceLT, Int.reduceLE, Int.reduceAdd, Int.reduceSub, Int.reduceMul, Int.reduceToNat, reduceIte, reduceCtorEq, Nat.reduceBEq, v22_12, v22_7, v22_8, v22_10]
  refine run_drw (by kernel_rfl) ?_
  refine drun_drive 30 (p := (_, _)) ?_
  simp only [go_sem, Nat.reduceAdd, Nat.reduceSub, Nat.reduceLeDiff, Nat.reduceMul, Nat.reduceLT, Nat.reduceEqDiff, Int.reduceLT, Int.reduceLE, Int.reduceAdd, Int.reduceSub, Int.reduceMul, Int.reduceToNat, reduceIte, reduceCtorEq, Nat.reduceBEq, v22_9]
  refine drun_call' ?_
  simp only [go_sem, Nat.reduceAdd, Nat.reduceSub, Nat.reduceLeDiff, Nat.reduceMul, Nat.reduceLT, Nat.reduceEqDiff, Int.reduceLT, Int.reduceLE, Int.reduceAdd, Int.reduceSub, Int.reduceMul, Int.reduceToNat, reduceIte, reduceCtorEq, Nat.reduceBEq, calV]
  refine into' _ _ _ _ ha3 hb1 hz04 hc12 _ rfl _ rfl ?_
  intro s13 c13 hs13 hc13 e13
  refine drun_drive 20 (p := (_, _)) ?_
  simp only [go_sem, Nat.reduceAdd, Nat.reduceSub, Nat.reduceLeDiff, Nat.reduceMul, Nat.reduceLT, Nat.reduceEqDiff, Int.reduceLT, Int.reduceLE, Int.reduceAdd, Int.reduceSub, Int.reduceMul, Int.reduceToNat, reduceIte, reduceCtorEq, Nat.reduceBEq]
  refine drun_end ?_
  refine run_drive 40 ?_
  simp only [go_sem, Nat.reduceAdd, Nat.reduceSub, Nat.reduceLeDiff, Nat.reduceMul, Nat.reduceLT, Nat.reduceEqDiff, Int.reduceLT, Int.reduceLE, Int.reduceAdd, Int.reduceSub, Int.reduceMul, Int.reduceToNat, reduceIte, reduceCtorEq, Nat.reduceBEq, v22_11]
  refine run_loop ?_
  refine run_drive 40 ?_
  simp only [go_sem, Nat.reduceAdd, Nat.reduceSub, Nat.reduceLeDiff, Nat.reduceMul, Nat.reduceLT, Nat.reduceEqDiff, Int.reduceLT, Int.reduceLE, Int.reduceAdd, Int.reduceSub, Int.reduceMul, Int.reduceToNat, reduceIte, reduceCtorEq, Nat.reduceBEq, v22_12, v22_7, v22_14]
  refine run_call' rfl ?_
  simp only [go_sem, Nat.reduceAdd, Nat.reduceSub, Nat.reduceLeDiff, Nat.reduceMul, Nat.reduceLT, Nat.reduceEqDiff, Int.reduceLT, Int.reduceLE, Int.reduceAdd, Int.reduceSub, Int.reduceMul, Int.reduceToNat, reduceIte, reduceCtorEq, Nat.reduceBEq, calV]
  refine add64_c 0 c13 0 (by decide) (by decide) hc13 _ rfl _ rfl ?_
  intro s14 k14 hs14 hk14 e14
  refine run_drive 40 ?_
  simp only [go_sem, Nat.reduceAdd, Nat.reduceSub, Nat.reduceLeDiff, Nat.reduceMul, Nat.reduceLT, Nat.reduceEqDiff, Int.reduceLT, Int.reduceLE, Int.reduceAdd, Int.reduceSub, Int.reduceMul, Int.reduceToNat, reduceIte, reduceCtorEq, Nat.reduceBEq, v22_15, v22_16, v22_17, hG, tbl]
  refine run_call' rfl ?_
  simp only [go_sem, Nat.reduceAdd, Nat.reduceSub, Nat.reduceLeDiff, Nat.reduceMul, Nat.reduceLT, Nat.reduceEqDiff, Int.reduceLT, Int.reduceLE, Int.reduceAdd, Int.reduceSub, Int.reduceMul, Int.reduceToNat, reduceIte, reduceCtorEq, Nat.reduceBEq, calV]
  refine into' (w64 (s10 * 15183074304973897243)) 6346243789798364141 s10 0 (Nat.mod_lt _ (by decide)) (by decide) hs10 (by decide) _ rfl _ rfl ?_
  intro z10 d10 hz10 hd10 f10
  refine run_drive 40 ?_
  simp only [go_sem, Nat.reduceAdd, Nat.reduceSub, Nat.reduceLeDiff, Nat.reduceMul, Nat.reduceLT, Nat.reduceEqDiff, Int.reduceLT, Int.reduceLE, Int.reduceAdd, Int.reduceSub, Int.reduceMul, Int.reduceToNat, reduceIte, reduceCtorEq, Nat.reduceBEq, v22_18, v22_24]
  refine run_loop ?_
  refine run_drive 40 ?_
  simp only [go_sem, Nat.reduceAdd, Nat.reduceSub, Nat.reduceLeDiff, Nat.reduceMul, Nat.reduceLT, Nat.reduceEqDiff, Int.reduceLT, Int.reduceLE, Int.reduceAdd, Int.reduceSub, Int.reduceMul, Int.reduceToNat, reduceIte, reduceCtorEq, Nat.reduceBEq, v22_23, v22_19, v22_21]
  refine run_drw (by kernel_rfl) ?_
  refine drun_drive 30 (p := (_, _)) ?_
  simp only [go_sem, Nat.reduceAdd, Nat.reduceSub, Nat.reduceLeDiff, Nat.reduceMul, Nat.reduceLT, Nat.reduceEqDiff, Int.reduceLT, Int.reduceLE, Int.reduceAdd, Int.reduceSub, Int.reduceMul, Int.reduceToNat, reduceIte, reduceCtorEq, Nat.reduceBEq, v22_20, hG, tbl]
  refine drun_call' ?_
  simp only [go_sem, Nat.reduceAdd, Nat.reduceSub, Nat.reduceLeDiff, Nat.reduceMul, Nat.reduceLT, Nat.reduceEqDiff, Int.reduceLT, Int.reduceLE, Int.reduceAdd, Int.reduceSub, Int.reduceMul, Int.reduceToNat, reduceIte, reduceCtorEq, Nat.reduceBEq, calV]
  refine into' (w64 (s10 * 15183074304973897243)) 1503914060200516822 s11 d10 (Nat.mod_lt _ (by decide)) (by decide) hs11 hd10 _ rfl _ rfl ?_
  intro z11 d11 hz11 hd11 f11
  refine drun_drive 20 (p := (_, _)) ?_
  simp only [go_sem, Nat.reduceAdd, Nat.reduceSub, Nat.reduceLeDiff, Nat.reduceMul, Nat.reduceLT, Nat.reduceEqDiff, Int.reduceLT, Int.reduceLE, Int.reduceAdd, Int.reduceSub, Int.reduceMul, Int.reduceToNat, reduceIte, reduceCtorEq, Nat.reduceBEq]
  refine drun_end ?_
  refine run_drive 40 ?_
  simp only [go_sem, Nat.reduceAdd, Nat.reduceSub, Nat.reduceLeDiff, Nat.reduceMul, Nat.reduceLT, Nat.reduceEqDiff, Int.reduceLT, Int.reduceLE, Int.reduceAdd, Int.reduceSub, Int.reduceMul, Int.reduceToNat, reduceIte, reduceCtorEq, Nat.reduceBEq, v22_22]
  refine run_loop ?_
  refine run_drive 40 ?_
  simp only [go_sem, Nat.reduceAdd, Nat.reduceSub, Nat.reduceLeDiff, Nat.reduceMul, Nat.reduceLT, Nat.reduceEqDiff, Int.reduceLT, Int.reduceLE, Int.reduceAdd, Int.reduceSub, Int.reduceMul, Int.reduceToNat, reduceIte, reduceCtorEq, Nat.reduceBEq, v22_23, v22_19, v22_21]
  refine run_drw (by kernel_rfl) ?_
  refine drun_drive 30 (p := (_, _)) ?_
  simp only [go_sem, Nat.reduceAdd, Nat.reduceSub, Nat.reduceLeDiff, Nat.reduceMul, Nat.reduceLT, Nat.reduceEqDiff, Int.reduceLT, Int.reduceLE, Int.reduceAdd, Int.reduceSub, Int.reduceMul, Int.reduceToNat, reduceIte, reduceCtorEq, Nat.reduceBEq, v22_20, hG, tbl]
  refine drun_call' ?_
  simp only [go_sem, Nat.reduceAdd, Nat.reduceSub, Nat.reduceLeDiff, Nat.reduceMul, Nat.reduceLT, Nat.reduceEqDiff, Int.reduceLT, Int.reduceLE, Int.reduceAdd, Int.reduceSub, Int.reduceMul, Int.reduceToNat, reduceIte, reduceCtorEq, Nat.reduceBEq, calV]
  refine into' (w64 (s10 * 15183074304973897243)) 0 s12 d11 (Nat.mod_lt _ (by decide)) (by decide) hs12 hd11 _ rfl _ rfl ?_
  intro z12 d12 hz12 hd12 f12
  refine drun_drive 20 (p := (_, _)) ?_
  simp only [go_sem, Nat.reduceAdd, Nat.reduceSub, Nat.reduceLeDiff, Nat.reduceMul, Nat.reduceLT, Nat.reduceEqDiff, Int.reduceLT, Int.reduceLE, Int.reduceAdd, Int.reduceSub, Int.reduceMul, Int.reduceToNat, reduceIte, reduceCtorEq, Nat.reduceBEq]
  refine drun_end ?_
  refine run_drive 40 ?_
  simp only [go_sem, Nat.reduceAdd, Nat.reduceSub, Nat.reduceLeDiff, Nat.reduceMul, Nat.reduceLT, Nat.reduceEqDiff, Int.reduceLT, Int.reduceLE, Int.reduceAdd, Int.reduceSub, Int.reduceMul, Int.reduceToNat, reduceIte, reduceCtorEq, Nat.reduceBEq, v22_22]
  refine run_loop ?_
  refine run_drive 40 ?_
  simp only [go_sem, Nat.reduceAdd, Nat.reduceSub, Nat.reduceLeDiff, Nat.reduceMul, Nat.reduceLT, Nat.reduceEqDiff, Int.reduceLT, Int.reduceLE, Int.reduceAdd, Int.reduceSub, Int.reduceMul, Int.reduceToNat, reduceIte, reduceCtorEq, Nat.reduceBEq, v22_23, v22_19, v22_21]
  refine run_drw (by kernel_rfl) ?_
  refine drun_drive 30 (p := (_, _)) ?_
  simp only [go_sem, Nat.reduceAdd, Nat.reduceSub, Nat.reduceLeDiff, Nat.reduceMul, Nat.reduceLT, Nat.reduceEqDiff, Int.reduceLT, Int.reduceLE, Int.reduceAdd, Int.reduceSub, Int.reduceMul, Int.reduceToNat, reduceIte, reduceCtorEq, Nat.reduceBEq, v22_20, hG, tbl]
  refine drun_call' ?_
  simp only [go_sem, Nat.reduceAdd, Nat.reduceSub, Nat.reduceLeDiff, Nat.reduceMul, Nat.reduceLT, Nat.reduceEqDiff, Int.reduceLT, Int.reduceLE, Int.reduceAdd, Int.reduceSub, Int.reduceMul, Int.reduceToNat, reduceIte, reduceCtorEq, Nat.reduceBEq, calV]
  refine into' (w64 (s10 * 15183074304973897243)) 1152921504606846976 s13 d12 (Nat.mod_lt _ (by decide)) (by decide) hs13 hd12 _ rfl _ rfl ?_
  intro z13 d13 hz13 hd13 f13
  refine drun_drive 20 (p := (_, _)) ?_
  simp only [go_sem, Nat.reduceAdd, Nat.reduceSub, Nat.reduceLeDiff, Nat.reduceMul, Nat.reduceLT, Nat.reduceEqDiff, Int.reduceLT, Int.reduceLE, Int.reduceAdd, Int.reduceSub, Int.reduceMul, Int.reduceToNat, reduceIte, reduceCtorEq, Nat.reduceBEq]
  refine drun_end ?_
  refine run_drive 40 ?_
  simp only [go_sem, Nat.reduceAdd, Nat.reduceSub, Nat.reduceLeDiff, Nat.reduceMul, Nat.reduceLT, Nat.reduceEqDiff, Int.reduceLT, Int.reduceLE, Int.reduceAdd, Int.reduceSub, Int.reduceMul, Int.reduceToNat, reduceIte, reduceCtorEq, Nat.reduceBEq, v22_22]
  refine run_loop ?_
  refine run_drive 40 ?_
  simp only [go_sem, Nat.reduceAdd, Nat.reduceSub, Nat.reduceLeDiff, Nat.reduceMul, Nat.reduceLT, Nat.reduceEqDiff, Int.reduceLT, Int.reduceLE, Int.reduceAdd, Int.reduceSub, Int.reduceMul, Int.reduceToNat, reduceIte, reduceCtorEq, Nat.reduceBEq, v22_23, v22_19, v22_25]
  refine run_call' rfl ?_
  simp only [go_sem, Nat.reduceAdd, Nat.reduceSub, Nat.reduceLeDiff, Nat.reduceMul, Nat.reduceLT, Nat.reduceEqDiff, Int.reduceLT, Int.reduceLE, Int.reduceAdd, Int.reduceSub, Int.reduceMul, Int.reduceToNat, reduceIte, reduceCtorEq, Nat.reduceBEq, calV]
  refine add64_c s14 d13 0 (by decide) hs14 hd13 _ rfl _ rfl ?_
  intro z14 k15 hz14 hk15 f14
  refine run_drive 40 ?_
  simp only [go_sem, Nat.reduceAdd, Nat.reduceSub, Nat.reduceLeDiff, Nat.reduceMul, Nat.reduceLT, Nat.reduceEqDiff, Int.reduceLT, Int.reduceLE, Int.reduceAdd, Int.reduceSub, Int.reduceMul, Int.reduceToNat, reduceIte, reduceCtorEq, Nat.reduceBEq, v22_26, v22_28]
  obtain ⟨w1, T1, m1, M1⟩ := round_law a0 a1 a2 a3 b1 z01 z02 z03 z04 s10 s11 s12 s13 s14 c10 c11 c12 c13 k14 z10 z11 z12 z13 z14 d10 d11 d12 d13 k15 hb1 hA T0 hs10 hz10 hz11 hz12 hz13 hz14 e10 e11 e12 e13 e14 f10 f11 f12 f13 f14
  rw [w1]
  clear e10 e11 e12 e13 e14 f10 f11 f12 f13 f14 w1
  refine run_loop ?_
  refine run_drive 40 ?_
  simp only [go_sem, Nat.reduceAdd, Nat.reduceSub, Nat.reduceLeDiff, Nat.reduceMul, Nat.reduceLT, Nat.reduceEqDiff, Int.reduceLT, Int.reduceLE, Int.reduceAdd, Int.reduceSub, Int.reduceMul, Int.reduceToNat, reduceIte, reduceCtorEq, Nat.reduceBEq, v22_29, v22_3, v22_27, v22_4, v22_5, v22_6, v22_13]
  refine run_loop ?_
  refine run_drive 40 ?_
  simp only [go_sem, Nat.reduceAdd, Nat.reduceSub, Nat.reduceLeDiff, Nat.reduceMul, Nat.reduceLT, Nat.reduceEqDiff, Int.reduceLT, Int.reduceLE, Int.reduceAdd, Int.reduceSub, Int.reduceMul, Int.reduceToNat, reduceIte, reduceCtorEq, Nat.reduceBEq, v22_12, v22_7, v22_8, v22_10]
  refine run_drw (by kernel_rfl) ?_
  refine drun_drive 30 (p := (_, _)) ?_
  simp only [go_sem, Nat.reduceAdd, Nat.reduceSub, Nat.reduceLeDiff, Nat.reduceMul, Nat.reduceLT, Nat.reduceEqDiff, Int.reduceLT, Int.reduceLE, Int.reduceAdd, Int.reduceSub, Int.reduceMul, Int.reduceToNat, reduceIte, reduceCtorEq, Nat.reduceBEq, v22_9]
  refine drun_call' ?_
  simp only [go_sem, Nat.reduceAdd, Nat.reduceSub, Nat.reduceLeDiff, Nat.reduceMul, Nat.reduceLT, Nat.reduceEqDiff, Int.reduceLT, Int.reduceLE, Int.reduceAdd, Int.reduceSub, Int.reduceMul, Int.reduceToNat, reduceIte, reduceCtorEq, Nat.reduceBEq, calV]
  refine into' _ _ _ _ ha0 hb2 hz11 (by decide : (0 : Nat) < 18446744073709551616) _ rfl _ rfl ?_
  intro s20 c20 hs20 hc20 e20
  refine drun_drive 20 (p := (_, _)) ?_
  simp only [go_sem, Nat.reduceAdd, Nat.reduceSub, Nat.reduceLeDiff, Nat.reduceMul, Nat.reduceLT, Nat.reduceEqDiff, Int.reduceLT, Int.reduceLE, Int.reduceAdd, Int.reduceSub, Int.reduceMul, Int.reduceToNat, reduceIte, reduceCtorEq, Nat.reduceBEq]
  refine drun_end ?_
  refine run_drive 40 ?_
  simp only [go_sem, Nat.reduceAdd, Nat.reduceSub, Nat.reduceLeDiff, Nat.reduceMul, Nat.reduceLT, Nat.reduceEqDiff, Int.reduceLT, Int.reduceLE, Int.reduceAdd, Int.reduceSub, Int.reduceMul, Int.reduceToNat, reduceIte, reduceCtorEq, Nat.reduceBEq, v22_11]
  refine run_loop ?_
  refine run_drive 40 ?_
  simp only [go_sem, Nat.reduceAdd, Nat.reduceSub, Nat.reduceLeDiff, Nat.reduceMul, Nat.reduceLT, Nat.reduceEqDiff, Int.reduceLT, Int.reduceLE, Int.reduceAdd, Int.reduceSub, Int.reduceMul, Int.reduceToNat, reduceIte, reduceCtorEq, Nat.reduceBEq, v22_12, v22_7, v22_8, v22_10]
  refine run_drw (by kernel_rfl) ?_
  refine drun_drive 30 (p := (_, _)) ?_
  simp only [go_sem, Nat.reduceAdd, Nat.reduceSub, Nat.reduceLeDiff, Nat.reduceMul, Nat.reduceLT, Nat.reduceEqDiff, Int.reduceLT, Int.reduceLE, Int.reduceAdd, Int.reduceSub, Int.reduceMul, Int.reduceToNat, reduceIte, reduceCtorEq, Nat.reduceBEq, v22_9]
  refine drun_call' ?_
  simp only [go_sem, Nat.reduceAdd, Nat.reduceSub, Nat.reduceLeDiff, Nat.reduceMul, Nat.reduceLT, Nat.reduceEqDiff, Int.reduceLT, Int.reduceLE, Int.reduceAdd, Int.reduceSub, Int.reduceMul, Int.reduceToNat, reduceIte, reduceCtorEq, Nat.reduceBEq, calV]
  refine into' _ _ _ _ ha1 hb2 hz12 hc20 _ rfl _ rfl ?_
  intro s21 c21 hs21 hc21 e21
  refine drun_drive 20 (p := (_, _)) ?_
  simp only [go_sem, Nat.reduceAdd, Nat.reduceSub, Nat.reduceLeDiff, Nat.reduceMul, Nat.reduceLT, Nat.reduceEqDiff, Int.reduceLT, Int.reduceLE, Int.reduceAdd, Int.reduceSub, Int.reduceMul, Int.reduceToNat, reduceIte, reduceCtorEq, Nat.reduceBEq]
  refine drun_end ?_
  refine run_drive 40 ?_
  simp only [go_sem, Nat.reduceAdd, Nat.reduceSub, Nat.reduceLeDiff, Nat.reduceMul, Nat.reduceLT, Nat.reduceEqDiff, Int.reduceLT, Int.reduceLE, Int.reduceAdd, Int.reduceSub, Int.reduceMul, Int.reduceToNat, reduceIte, reduceCtorEq, Nat.reduceBEq, v22_11]
  refine run_loop ?_
  refine run_drive 40 ?_
  simp only [go_sem, Nat.reduceAdd, Nat.reduceSub, Nat.reduceLeDiff, Nat.reduceMul, Nat.reduceLT, Nat.reduceEqDiff, Int.reduceLT, Int.reduceLE, Int.reduceAdd, Int.reduceSub, Int.reduceMul, Int.reduceToNat, reduceIte, reduceCtorEq, Nat.reduceBEq, v22_12, v22_7, v22_8, v22_10]
  refine run_drw (by kernel_rfl) ?_
  refine drun_drive 30 (p := (_, _)) ?_
  simp only [go_sem, Nat.reduceAdd, Nat.reduceSub, Nat.reduceLeDiff, Nat.reduceMul, Nat.reduceLT, Nat.reduceEqDiff, Int.reduceLT, Int.reduceLE, Int.reduceAdd, Int.reduceSub, Int.reduceMul, Int.reduceToNat, reduceIte, reduceCtorEq, Nat.reduceBEq, v22_9]
  refine drun_call' ?_
  simp only [go_sem, Nat.reduceAdd, Nat.reduceSub, Nat.reduceLeDiff, Nat.reduceMul, Nat.reduceLT, Nat.reduceEqDiff, Int.reduceLT, Int.reduceLE, Int.reduceAdd, Int.reduceSub, Int.reduceMul, Int.reduceToNat, reduceIte, reduceCtorEq, Nat.reduceBEq, calV]
  refine into' _ _ _ _ ha2 hb2 hz13 hc21 _ rfl _ rfl ?_
  intro s22 c22 hs22 hc22 e22
  refine drun_drive 20 (p := (_, _)) ?_
  simp only [go_sem, Nat.reduceAdd, Nat.reduceSub, Nat.reduceLeDiff, Nat.reduceMul, Nat.reduceLT, Nat.reduceEqDiff, Int.reduceLT, Int.reduceLE, Int.reduceAdd, Int.reduceSub, Int.reduceMul, Int.reduceToNat, reduceIte, reduceCtorEq, Nat.reduceBEq]
  refine drun_end ?_
  refine run_drive 40 ?_
  simp only [go_sem, Nat.reduceAdd, Nat.reduceSub, Nat.reduceLeDiff, Nat.reduceMul, Nat.reduceLT, Nat.reduceEqDiff, Int.reduceLT, Int.reduceLE, Int.reduceAdd, Int.reduceSub, Int.reduceMul, Int.reduceToNat, reduceIte, reduceCtorEq, Nat.reduceBEq, v22_11]
  refine run_loop ?_
  refine run_drive 40 ?_
  simp only [go_sem, Nat.reduceAdd, Nat.reduceSub, Nat.reduceLeDiff, Nat.reduceMul, Nat.reduceLT, Nat.reduceEqDiff, Int.reduceLT, Int.reduceLE, Int.reduceAdd, Int.reduceSub, Int.reduceMul, Int.reduceToNat, reduceIte, reduceCtorEq, Nat.reduceBEq, v22_12, v22_7, v22_8, v22_10]
  refine run_drw (by kernel_rfl) ?_
  refine drun_drive 30 (p := (_, _)) ?_
  simp only [go_sem, Nat.reduceAdd, Nat.reduceSub, Nat.reduceLeDiff, Nat.reduceMul, Nat.reduceLT, Nat.reduceEqDiff, Int.reduceLT, Int.reduceLE, Int.reduceAdd, Int.reduceSub, Int.reduceMul, Int.reduceToNat, reduceIte, reduceCtorEq, Nat.reduceBEq, v22_9]
  refine drun_call' ?_
  simp only [go_sem, Nat.reduceAdd, Nat.reduceSub, Nat.reduceLeDiff, Nat.reduceMul, Nat.reduceLT, Nat.reduceEqDiff, Int.reduceLT, Int.reduceLE, Int.reduceAdd, Int.reduceSub, Int.reduceMul, Int.reduceToNat, reduceIte, reduceCtorEq, Nat.reduceBEq, calV]
  refine into' _ _ _ _ ha3 hb2 hz14 hc22 _ rfl _ rfl ?_
  intro s23 c23 hs23 hc23 e23
  refine drun_drive 20 (p := (_, _)) ?_
  simp only [go_sem, Nat.reduceAdd, Nat.reduceSub, Nat.reduceLeDiff, Nat.reduceMul, Nat.reduceLT, Nat.reduceEqDiff, Int.reduceLT, Int.reduceLE, Int.reduceAdd, Int.reduceSub, Int.reduceMul, Int.reduceToNat, reduceIte, reduceCtorEq, Nat.reduceBEq]
  refine drun_end ?_
  refine run_drive 40 ?_
  simp only [go_sem, Nat.reduceAdd, Nat.reduceSub, Nat.reduceLeDiff, Nat.reduceMul, Nat.reduceLT, Nat.reduceEqDiff, Int.reduceLT, Int.reduceLE, Int.reduceAdd, Int.reduceSub, Int.reduceMul, Int.reduceToNat, reduceIte, reduceCtorEq, Nat.reduceBEq, v22_11]
  refine run_loop ?_
  refine run_drive 40 ?_
  simp only [go_sem, Nat.reduceAdd, Nat.reduceSub, Nat.reduceLeDiff, Nat.reduceMul, Nat.reduceLT, Nat.reduceEqDiff, Int.reduceLT, Int.reduceLE, Int.reduceAdd, Int.reduceSub, Int.reduceMul, Int.reduceToNat, reduceIte, reduceCtorEq, Nat.reduceBEq, v22_12, v22_7, v22_14]
  refine run_call' rfl ?_
  simp only [go_sem, Nat.reduceAdd, Nat.reduceSub, Nat.reduceLeDiff, Nat.reduceMul, Nat.reduceLT, Nat.reduceEqDiff, Int.reduceLT, Int.reduceLE, Int.reduceAdd, Int.reduceSub, Int.reduceMul, Int.reduceToNat, reduceIte, reduceCtorEq, Nat.reduceBEq, calV]
  refine add64_c 0 c23 0 (by decide) (by decide) hc23 _ rfl _ rfl ?_
  intro s24 k24 hs24 hk24 e24
  refine run_drive 40 ?_
  simp only [go_sem, Nat.reduceAdd, Nat.reduceSub, Nat.reduceLeDiff, Nat.reduceMul, Nat.reduceLT, Nat.reduceEqDiff, Int.reduceLT, Int.reduceLE, Int.reduceAdd, Int.reduceSub, Int.reduceMul, Int.reduceToNat, reduceIte, reduceCtorEq, Nat.reduceBEq, v22_15, v22_16, v22_17, hG, tbl]
  refine run_call' rfl ?_
  simp only [go_sem, Nat.reduceAdd, Nat.reduceSub, Nat.reduceLeDiff, Nat.reduceMul, Nat.reduceLT, Nat.reduceEqDiff, Int.reduceLT, Int.reduceLE, Int.reduceAdd, Int.reduceSub, Int.reduceMul, Int.reduceToNat, reduceIte, reduceCtorEq, Nat.reduceBEq, calV]
  refine into' (w64 (s20 * 15183074304973897243)) 6346243789798364141 s20 0 (Nat.mod_lt _ (by decide)) (by decide) hs20 (by decide) _ rfl _ rfl ?_
  intro z20 d20 hz20 hd20 f20
  refine run_drive 40 ?_
  simp only [go_sem, Nat.reduceAdd, Nat.reduceSub, Nat.reduceLeDiff, Nat.reduceMul, Nat.reduceLT, Nat.reduceEqDiff, Int.reduceLT, Int.reduceLE, Int.reduceAdd, Int.reduceSub, Int.reduceMul, Int.reduceToNat, reduceIte, reduceCtorEq, Nat.reduceBEq, v22_18, v22_24]
  refine run_loop ?_
  refine run_drive 40 ?_
  simp only [go_sem, Nat.reduceAdd, Nat.reduceSub, Nat.reduceLeDiff, Nat.reduceMul, Nat.reduceLT, Nat.reduceEqDiff, Int.reduceLT, Int.reduceLE, Int.reduceAdd, Int.reduceSub, Int.reduceMul, Int.reduceToNat, reduceIte, reduceCtorEq, Nat.reduceBEq, v22_23, v22_19, v22_21]
  refine run_drw (by kernel_rfl) ?_
  refine drun_drive 30 (p := (_, _)) ?_
  simp only [go_sem, Nat.reduceAdd, Nat.reduceSub, Nat.reduceLeDiff, Nat.reduceMul, Nat.reduceLT, Nat.reduceEqDiff, Int.reduceLT, Int.reduceLE, Int.reduceAdd, Int.reduceSub, Int.reduceMul, Int.reduceToNat, reduceIte, reduceCtorEq, Nat.reduceBEq, v22_20, hG, tbl]
  refine drun_call' ?_
  simp only [go_sem, Nat.reduceAdd, Nat.reduceSub, Nat.reduceLeDiff, Nat.reduceMul, Nat.reduceLT, Nat.reduceEqDiff, Int.reduceLT, Int.reduceLE, Int.reduceAdd, Int.reduceSub, Int.reduceMul, Int.reduceToNat, reduceIte, reduceCtorEq, Nat.reduceBEq, calV]
  refine into' (w64 (s20 * 15183074304973897243)) 1503914060200516822 s21 d20 (Nat.mod_lt _ (by decide)) (by decide) hs21 hd20 _ rfl _ rfl ?_
  intro z21 d21 hz21 hd21 f21
  refine drun_drive 20 (p := (_, _)) ?_
  simp only [go_sem, Nat.reduceAdd, Nat.reduceSub, Nat.reduceLeDiff, Nat.reduceMul, Nat.reduceLT, Nat.reduceEqDiff, Int.reduceLT, Int.reduceLE, Int.reduceAdd, Int.reduceSub, Int.reduceMul, Int.reduceToNat, reduceIte, reduceCtorEq, Nat.reduceBEq]
  refine drun_end ?_
  refine run_drive 40 ?_
  simp only [go_sem, Nat.reduceAdd, Nat.reduceSub, Nat.reduceLeDiff, Nat.reduceMul, Nat.reduceLT, Nat.reduceEqDiff, Int.reduceLT, Int.reduceLE, Int.reduceAdd, Int.reduceSub, Int.reduceMul, Int.reduceToNat, reduceIte, reduceCtorEq, Nat.reduceBEq, v22_22]
  refine run_loop ?_
  refine run_drive 40 ?_
  simp only [go_sem, Nat.reduceAdd, Nat.reduceSub, Nat.reduceLeDiff, Nat.reduceMul, Nat.reduceLT, Nat.reduceEqDiff, Int.reduceLT, Int.reduceLE, Int.reduceAdd, Int.reduceSub, Int.reduceMul, Int.reduceToNat, reduceIte, reduceCtorEq, Nat.reduceBEq, v22_23, v22_19, v22_21]
  refine run_drw (by kernel_rfl) ?_
  refine drun_drive 30 (p := (_, _)) ?_
  simp only [go_sem, Nat.reduceAdd, Nat.reduceSub, Nat.reduceLeDiff, Nat.reduceMul, Nat.reduceLT, Nat.reduceEqDiff, Int.reduceLT, Int.reduceLE, Int.reduceAdd, Int.reduceSub, Int.reduceMul, Int.reduceToNat, reduceIte, reduceCtorEq, Nat.reduceBEq, v22_20, hG, tbl]
  refine drun_call' ?_
  simp only [go_sem, Nat.reduceAdd, Nat.reduceSub, Nat.reduceLeDiff, Nat.reduceMul, Nat.reduceLT, Nat.reduceEqDiff, Int.reduceLT, Int.reduceLE, Int.reduceAdd, Int.reduceSub, Int.reduceMul, Int.reduceToNat, reduceIte, reduceCtorEq, Nat.reduceBEq, calV]
  refine into' (w64 (s20 * 15183074304973897243)) 0 s22 d21 (Nat.mod_lt _ (by decide)) (by decide) hs22 hd21 _ rfl _ rfl ?_
  intro z22 d22 hz22 hd22 f22
  refine drun_drive 20 (p := (_, _)) ?_
  simp only [go_sem, Nat.reduceAdd, Nat.reduceSub, Nat.reduceLeDiff, Nat.reduceMul, Nat.reduceLT, Nat.reduceEqDiff, Int.reduceLT, Int.reduceLE, Int.reduceAdd, Int.reduceSub, Int.reduceMul, Int.reduceToNat, reduceIte, reduceCtorEq, Nat.reduceBEq]
  refine drun_end ?_
  refine run_drive 40 ?_
  simp only [go_sem, Nat.reduceAdd, Nat.reduceSub, Nat.reduceLeDiff, Nat.reduceMul, Nat.reduceLT, Nat.reduceEqDiff, Int.reduceLT, Int.reduceLE, Int.reduceAdd, Int.reduceSub, Int.reduceMul, Int.reduceToNat, reduceIte, reduceCtorEq, Nat.reduceBEq, v22_22]
  refine run_loop ?_
  refine run_drive 40 ?_
  simp only [go_sem, Nat.reduceAdd, Nat.reduceSub, Nat.reduceLeDiff, Nat.reduceMul, Nat.reduceLT, Nat.reduceEqDiff, Int.reduceLT, Int.reduceLE, Int.reduceAdd, Int.reduceSub, Int.reduceMul, Int.reduceToNat, reduceIte, reduceCtorEq, Nat.reduceBEq, v22_23, v22_19, v22_21]
  refine run_drw (by kernel_rfl) ?_
  refine drun_drive 30 (p := (_, _)) ?_
  simp only [go_sem, Nat.reduceAdd, Nat.reduceSub, Nat.reduceLeDiff, Nat.reduceMul, Nat.reduceLT, Nat.reduceEqDiff, Int.reduceLT, Int.reduceLE, Int.reduceAdd, Int.reduceSub, Int.reduceMul, Int.reduceToNat, reduceIte, reduceCtorEq, Nat.reduceBEq, v22_20, hG, tbl]
  refine drun_call' ?_
  simp only [go_sem, Nat.reduceAdd, Nat.reduceSub, Nat.reduceLeDiff, Nat.reduceMul, Nat.reduceLT, Nat.reduceEqDiff, Int.reduceLT, Int.reduceLE, Int.reduceAdd, Int.reduceSub, Int.reduceMul, Int.reduceToNat, reduceIte, reduceCtorEq, Nat.reduceBEq, calV]
  refine into' (w64 (s20 * 15183074304973897243)) 1152921504606846976 s23 d22 (Nat.mod_lt _ (by decide)) (by decide) hs23 hd22 _ rfl _ rfl ?_
  intro z23 d23 hz23 hd23 f23
  refine drun_drive 20 (p := (_, _)) ?_
  simp only [go_sem, Nat.reduceAdd, Nat.reduceSub, Nat.reduceLeDiff, Nat.reduceMul, Nat.reduceLT, Nat.reduceEqDiff, Int.reduceLT, Int.reduceLE, Int.reduceAdd, Int.reduceSub, Int.reduceMul, Int.reduceToNat, reduceIte, reduceCtorEq, Nat.reduceBEq]
  refine drun_end ?_
  refine run_drive 40 ?_
  simp only [go_sem, Nat.reduceAdd, Nat.reduceSub, Nat.reduceLeDiff, Nat.reduceMul, Nat.reduceLT, Nat.reduceEqDiff, Int.reduceLT, Int.reduceLE, Int.reduceAdd, Int.reduceSub, Int.reduceMul, Int.reduceToNat, reduceIte, reduceCtorEq, Nat.reduceBEq, v22_22]
  refine run_loop ?_
  refine run_drive 40 ?_
  simp only [go_sem, Nat.reduceAdd, Nat.reduceSub, Nat.reduceLeDiff, Nat.reduceMul, Nat.reduceLT, Nat.reduceEqDiff, Int.reduceLT, Int.reduceLE, Int.reduceAdd, Int.reduceSub, Int.reduceMul, Int.reduceToNat, reduceIte, reduceCtorEq, Nat.reduceBEq, v22_23, v22_19, v22_25]
  refine run_call' rfl ?_
  simp only [go_sem, Nat.reduceAdd, Nat.reduceSub, Nat.reduceLeDiff, Nat.reduceMul, Nat.reduceLT, Nat.reduceEqDiff, Int.reduceLT, Int.reduceLE, Int.reduceAdd, Int.reduceSub, Int.reduceMul, Int.reduceToNat, reduceIte, reduceCtorEq, Nat.reduceBEq, calV]
  refine add64_c s24 d23 0 (by decide) hs24 hd23 _ rfl _ rfl ?_
  intro z24 k25 hz24 hk25 f24
  refine run_drive 40 ?_
  simp only [go_sem, Nat.reduceAdd, Nat.reduceSub, Nat.reduceLeDiff, Nat.reduceMul, Nat.reduceLT, Nat.reduceEqDiff, Int.reduceLT, Int.reduceLE, Int.reduceAdd, Int.reduceSub, Int.reduceMul, Int.reduceToNat, reduceIte, reduceCtorEq, Nat.reduceBEq, v22_26, v22_28]
  obtain ⟨w2, T2, m2, M2⟩ := round_law a0 a1 a2 a3 b2 z11 z12 z13 z14 s20 s21 s22 s23 s24 c20 c21 c22 c23 k24 z20 z21 z22 z23 z24 d20 d21 d22 d23 k25 hb2 hA T1 hs20 hz20 hz21 hz22 hz23 hz24 e20 e21 e22 e23 e24 f20 f21 f22 f23 f24
  rw [w2]
  clear e20 e21 e22 e23 e24 f20 f21 f22 f23 f24 w2
  refine run_loop ?_
  refine run_drive 40 ?_
  simp only [go_sem, Nat.reduceAdd, Nat.reduceSub, Nat.reduceLeDiff, Nat.reduceMul, Nat.reduceLT, Nat.reduceEqDiff, Int.reduceLT, Int.reduceLE, Int.reduceAdd, Int.reduceSub, Int.reduceMul, Int.reduceToNat, reduceIte, reduceCtorEq, Nat.reduceBEq, v22_29, v22_3, v22_27, v22_4, v22_5, v22_6, v22_13]
  refine run_loop ?_
  refine run_drive 40 ?_
  simp only [go_sem, Nat.reduceAdd, Nat.reduceSub, Nat.reduceLeDiff, Nat.reduceMul, Nat.reduceLT, Nat.reduceEqDiff, Int.reduceLT, Int.reduceLE, Int.reduceAdd, Int.reduceSub, Int.reduceMul, Int.reduceToNat, reduceIte, reduceCtorEq, Nat.reduceBEq, v22_12, v22_7, v22_8, v22_10]
  refine run_drw (by kernel_rfl) ?_
  refine drun_drive 30 (p := (_, _)) ?_
  simp only [go_sem, Nat.reduceAdd, Nat.reduceSub, Nat.reduceLeDiff, Nat.reduceMul, Nat.reduceLT, Nat.reduceEqDiff, Int.reduceLT, Int.reduceLE, Int.reduceAdd, Int.reduceSub, Int.reduceMul, Int.reduceToNat, reduceIte, reduceCtorEq, Nat.reduceBEq, v22_9]
  refine drun_call' ?_
  simp only [go_sem, Nat.reduceAdd, Nat.reduceSub, Nat.reduceLeDiff, Nat.reduceMul, Nat.reduceLT, Nat.reduceEqDiff, Int.reduceLT, Int.reduceLE, Int.reduceAdd, Int.reduceSub, Int.reduceMul, Int.reduceToNat, reduceIte, reduceCtorEq, Nat.reduceBEq, calV]
  refine into' _ _ _ _ ha0 hb3 hz21 (by decide : (0 : Nat) < 18446744073709551616) _ rfl _ rfl ?_
  intro s30 c30 hs30 hc30 e30
  refine drun_drive 20 (p := (_, _)) ?_
  simp only [go_sem, Nat.reduceAdd, Nat.reduceSub, Nat.reduceLeDiff, Nat.reduceMul, Nat.reduceLT, Nat.reduceEqDiff, Int.reduceLT, Int.reduceLE, Int.reduceAdd, Int.reduceSub, Int.reduceMul, Int.reduceToNat, reduceIte, reduceCtorEq, Nat.reduceBEq]
  refine drun_end ?_
  refine run_drive 40 ?_
  simp only [go_sem, Nat.reduceAdd, Nat.reduceSub, Nat.reduceLeDiff, Nat.reduceMul, Nat.reduceLT, Nat.reduceEqDiff, Int.reduceLT, Int.reduceLE, Int.reduceAdd, Int.reduceSub, Int.reduceMul, Int.reduceToNat, reduceIte, reduceCtorEq, Nat.reduceBEq, v22_11]
  refine run_loop ?_
  refine run_drive 40 ?_
  simp only [go_sem, Nat.reduceAdd, Nat.reduceSub, Nat.reduceLeDiff, Nat.reduceMul, Nat.reduceLT, Nat.reduceEqDiff, Int.reduceLT, Int.reduceLE, Int.reduceAdd, Int.reduceSub, Int.reduceMul, Int.reduceToNat, reduceIte, reduceCtorEq, Nat.reduceBEq, v22_12, v22_7, v22_8, v22_10]
  refine run_drw (by kernel_rfl) ?_
  refine drun_drive 30 (p := (_, _)) ?_
  simp only [go_sem, Nat.reduceAdd, Nat.reduceSub, Nat.reduceLeDiff, Nat.reduceMul, Nat.reduceLT, Nat.reduceEqDiff, Int.reduceLT, Int.reduceLE, Int.reduceAdd, Int.reduceSub, Int.reduceMul, Int.reduceToNat, reduceIte, reduceCtorEq, Nat.reduceBEq, v22_9]
  refine drun_call' ?_
  simp only [go_sem, Nat.reduceAdd, Nat.reduceSub, Nat.reduceLeDiff, Nat.reduceMul, Nat.reduceLT, Nat.reduceEqDiff, Int.reduceLT, Int.reduceLE, Int.reduceAdd, Int.reduceSub, Int.reduceMul, Int.reduceToNat, reduceIte, reduceCtorEq, Nat.reduceBEq, calV]
  refine into' _ _ _ _ ha1 hb3 hz22 hc30 _ rfl _ rfl ?_
  intro s31 c31 hs31 hc31 e31
  refine drun_drive 20 (p := (_, _)) ?_
  simp only [go_sem, Nat.reduceAdd, Nat.reduceSub, Nat.reduceLeDiff, Nat.reduceMul, Nat.reduceLT, Nat.reduceEqDiff, Int.reduceLT, Int.reduceLE, Int.reduceAdd, Int.reduceSub, Int.reduceMul, Int.reduceToNat, reduceIte, reduceCtorEq, Nat.reduceBEq]
  refine drun_end ?_
  refine run_drive 40 ?_
  simp only [go_sem, Nat.reduceAdd, Nat.reduceSub, Nat.reduceLeDiff, Nat.reduceMul, Nat.reduceLT, Nat.reduceEqDiff, Int.reduceLT, Int.reduceLE, Int.reduceAdd, Int.reduceSub, Int.reduceMul, Int.reduceToNat, reduceIte, reduceCtorEq, Nat.reduceBEq, v22_11]
  refine run_loop ?_
  refine run_drive 40 ?_
  simp only [go_sem, Nat.reduceAdd, Nat.reduceSub, Nat.reduceLeDiff, Nat.reduceMul, Nat.reduceLT, Nat.reduceEqDiff, Int.reduceLT, Int.reduceLE, Int.reduceAdd, Int.reduceSub, Int.reduceMul, Int.reduceToNat, reduceIte, reduceCtorEq, Nat.reduceBEq, v22_12, v22_7, v22_8, v22_10]
  refine run_drw (by kernel_rfl) ?_
  refine drun_drive 30 (p := (_, _)) ?_
  simp only [go_sem, Nat.reduceAdd, Nat.reduceSub, Nat.reduceLeDiff, Nat.reduceMul, Nat.reduceLT, Nat.reduceEqDiff, Int.reduceLT, Int.reduceLE, Int.reduceAdd, Int.reduceSub, Int.reduceMul, Int.reduceToNat, reduceIte, reduceCtorEq, Nat.reduceBEq, v22_9]
  refine drun_call' ?_
  simp only [go_sem, Nat.reduceAdd, Nat.reduceSub, Nat.reduceLeDiff, Nat.reduceMul, Nat.reduceLT, Nat.reduceEqDiff, Int.reduceLT, Int.reduceLE, Int.reduceAdd, Int.reduceSub, Int.reduceMul, Int.reduceToNat, reduceIte, reduceCtorEq, Nat.reduceBEq, calV]
  refine into' _ _ _ _ ha2 hb3 hz23 hc31 _ rfl _ rfl ?_
  intro s32 c32 hs32 hc32 e32
  refine drun_drive 20 (p := (_, _)) ?_
  simp only [go_sem, Nat.reduceAdd, Nat.reduceSub, Nat.reduceLeDiff, Nat.reduceMul, Nat.reduceLT, Nat.reduceEqDiff, Int.reduceLT, Int.reduceLE, Int.reduceAdd, Int.reduceSub, Int.reduceMul, Int.reduceToNat, reduceIte, reduceCtorEq, Nat.reduceBEq]
  refine drun_end ?_
  refine run_drive 40 ?_
  simp only [go_sem, Nat.reduceAdd, Nat.reduceSub, Nat.reduceLeDiff, Nat.reduceMul, Nat.reduceLT, Nat.reduceEqDiff, Int.reduceLT, Int.reduceLE, Int.reduceAdd, Int.reduceSub, Int.reduceMul, Int.reduceToNat, reduceIte, reduceCtorEq, Nat.reduceBEq, v22_11]
  refine run_loop ?_
  refine run_drive 40 ?_
  simp only [go_sem, Nat.reduceAdd, Nat.reduceSub, Nat.reduceLeDiff, Nat.reduceMul, Nat.reduceLT, Nat.reduceEqDiff, Int.reduceLT, Int.reduceLE, Int.reduceAdd, Int.reduceSub, Int.reduceMul, Int.reduceToNat, reduceIte, reduceCtorEq, Nat.reduceBEq, v22_12, v22_7, v22_8, v22_10]
  refine run_drw (by kernel_rfl) ?_
  refine drun_drive 30 (p := (_, _)) ?_
  simp only [go_sem, Nat.reduceAdd, Nat.reduceSub, Nat.reduceLeDiff, Nat.reduceMul, Nat.reduceLT, Nat.reduceEqDiff, Int.reduceLT, Int.reduceLE, Int.reduceAdd, Int.reduceSub, Int.reduceMul, Int.reduceToNat, reduceIte, reduceCtorEq, Nat.reduceBEq, v22_9]
  refine drun_call' ?_
  simp only [go_sem, Nat.reduceAdd, Nat.reduceSub, Nat.reduceLeDiff, Nat.reduceMul, Nat.reduceLT, Nat.reduceEqDiff, Int.reduceLT, Int.reduceLE, Int.reduceAdd, Int.reduceSub, Int.reduceMul, Int.reduceToNat, reduceIte, reduceCtorEq, Nat.reduceBEq, calV]
  refine into' _ _ _ _ ha3 hb3 hz24 hc32 _ rfl _ rfl ?_
  intro s33 c33 hs33 hc33 e33
  refine drun_drive 20 (p := (_, _)) ?_
  simp only [go_sem, Nat.reduceAdd, Nat.reduceSub, Nat.reduceLeDiff, Nat.reduceMul, Nat.reduceLT, Nat.reduceEqDiff, Int.reduceLT, Int.reduceLE, Int.reduceAdd, Int.reduceSub, Int.reduceMul, Int.reduceToNat, reduceIte, reduceCtorEq, Nat.reduceBEq]
  refine drun_end ?_
  refine run_drive 40 ?_
  simp only [go_sem, Nat.reduceAdd, Nat.reduceSub, Nat.reduceLeDiff, Nat.reduceMul, Nat.reduceLT, Nat.reduceEqDiff, Int.reduceLT, Int.reduceLE, Int.reduceAdd, Int.reduceSub, Int.reduceMul, Int.reduceToNat, reduceIte, reduceCtorEq, Nat.reduceBEq, v22_11]
  refine run_loop ?_
  refine run_drive 40 ?_
  simp only [go_sem, Nat.reduceAdd, Nat.reduceSub, Nat.reduceLeDiff, Nat.reduceMul, Nat.reduceLT, Nat.reduceEqDiff, Int.reduceLT, Int.reduceLE, Int.reduceAdd, Int.reduceSub, Int.reduceMul, Int.reduceToNat, reduceIte, reduceCtorEq, Nat.reduceBEq, v22_12, v22_7, v22_14]
  refine run_call' rfl ?_
  simp only [go_sem, Nat.reduceAdd, Nat.reduceSub, Nat.reduceLeDiff, Nat.reduceMul, Nat.reduceLT, Nat.reduceEqDiff, Int.reduceLT, Int.reduceLE, Int.reduceAdd, Int.reduceSub, Int.reduceMul, Int.reduceToNat, reduceIte, reduceCtorEq, Nat.reduceBEq, calV]
  refine add64_c 0 c33 0 (by decide) (by decide) hc33 _ rfl _ rfl ?_
  intro s34 k34 hs34 hk34 e34
  refine run_drive 40 ?_
  simp only [go_sem, Nat.reduceAdd, Nat.reduceSub, Nat.reduceLeDiff, Nat.reduceMul, Nat.reduceLT, Nat.reduceEqDiff, Int.reduceLT, Int.reduceLE, Int.reduceAdd, Int.reduceSub, Int.reduceMul, Int.reduceToNat, reduceIte, reduceCtorEq, Nat.reduceBEq, v22_15, v22_16, v22_17, hG, tbl]
  refine run_call' rfl ?_
  simp only [go_sem, Nat.reduceAdd, Nat.reduceSub, Nat.reduceLeDiff, Nat.reduceMul, Nat.reduceLT, Nat.reduceEqDiff, Int.reduceLT, Int.reduceLE, Int.reduceAdd, Int.reduceSub, Int.reduceMul, Int.reduceToNat, reduceIte, reduceCtorEq, Nat.reduceBEq, calV]
  refine into' (w64 (s30 * 15183074304973897243)) 6346243789798364141 s30 0 (Nat.mod_lt _ (by decide)) (by decide) hs30 (by decide) _ rfl _ rfl ?_
  intro z30 d30 hz30 hd30 f30
  refine run_drive 40 ?_
  simp only [go_sem, Nat.reduceAdd, Nat.reduceSub, Nat.reduceLeDiff, Nat.reduceMul, Nat.reduceLT, Nat.reduceEqDiff, Int.reduceLT, Int.reduceLE, Int.reduceAdd, Int.reduceSub, Int.reduceMul, Int.reduceToNat, reduceIte, reduceCtorEq, Nat.reduceBEq, v22_18, v22_24]
  refine run_loop ?_
  refine run_drive 40 ?_
  simp only [go_sem, Nat.reduceAdd, Nat.reduceSub, Nat.reduceLeDiff, Nat.reduceMul, Nat.reduceLT, Nat.reduceEqDiff, Int.reduceLT, Int.reduceLE, Int.reduceAdd, Int.reduceSub, Int.reduceMul, Int.reduceToNat, reduceIte, reduceCtorEq, Nat.reduceBEq, v22_23, v22_19, v22_21]
  refine run_drw (by kernel_rfl) ?_
  refine drun_drive 30 (p := (_, _)) ?_
  simp only [go_sem, Nat.reduceAdd, Nat.reduceSub, Nat.reduceLeDiff, Nat.reduceMul, Nat.reduceLT, Nat.reduceEqDiff, Int.reduceLT, Int.reduceLE, Int.reduceAdd, Int.reduceSub, Int.reduceMul, Int.reduceToNat, reduceIte, reduceCtorEq, Nat.reduceBEq, v22_20, hG, tbl]
  refine drun_call' ?_
  simp only [go_sem, Nat.reduceAdd, Nat.reduceSub, Nat.reduceLeDiff, Nat.reduceMul, Nat.reduceLT, Nat.reduceEqDiff, Int.reduceLT, Int.reduceLE, Int.reduceAdd, Int.reduceSub, Int.reduceMul, Int.reduceToNat, reduceIte, reduceCtorEq, Nat.reduceBEq, calV]
  refine into' (w64 (s30 * 15183074304973897243)) 1503914060200516822 s31 d30 (Nat.mod_lt _ (by decide)) (by decide) hs31 hd30 _ rfl _ rfl ?_
  intro z31 d31 hz31 hd31 f31
  refine drun_drive 20 (p := (_, _)) ?_
  simp only [go_sem, Nat.reduceAdd, Nat.reduceSub, Nat.reduceLeDiff, Nat.reduceMul, Nat.reduceLT, Nat.reduceEqDiff, Int.reduceLT, Int.reduceLE, Int.reduceAdd, Int.reduceSub, Int.reduceMul, Int.reduceToNat, reduceIte, reduceCtorEq, Nat.reduceBEq]
  refine drun_end ?_
  refine run_drive 40 ?_
  simp only [go_sem, Nat.reduceAdd, Nat.reduceSub, Nat.reduceLeDiff, Nat.reduceMul, Nat.reduceLT, Nat.reduceEqDiff, Int.reduceLT, Int.reduceLE, Int.reduceAdd, Int.reduceSub, Int.reduceMul, Int.reduceToNat, reduceIte, reduceCtorEq, Nat.reduceBEq, v22_22]
  refine run_loop ?_
  refine run_drive 40 ?_
  simp only [go_sem, Nat.reduceAdd, Nat.reduceSub, Nat.reduceLeDiff, Nat.reduceMul, Nat.reduceLT, Nat.reduceEqDiff, Int.reduceLT, Int.reduceLE, Int.reduceAdd, Int.reduceSub, Int.reduceMul, Int.reduceToNat, reduceIte, reduceCtorEq, Nat.reduceBEq, v22_23, v22_19, v22_21]
  refine run_drw (by kernel_rfl) ?_
  refine drun_drive 30 (p := (_, _)) ?_
  simp only [go_sem, Nat.reduceAdd, Nat.reduceSub, Nat.reduceLeDiff, Nat.reduceMul, Nat.reduceLT, Nat.reduceEqDiff, Int.reduceLT, Int.reduceLE, Int.reduceAdd, Int.reduceSub, Int.reduceMul, Int.reduceToNat, reduceIte, reduceCtorEq, Nat.reduceBEq, v22_20, hG, tbl]
  refine drun_call' ?_
  simp only [go_sem, Nat.reduceAdd, Nat.reduceSub, Nat.reduceLeDiff, Nat.reduceMul, Nat.reduceLT, Nat.reduceEqDiff, Int.reduceLT, Int.reduceLE, Int.reduceAdd, Int.reduceSub, Int.reduceMul, Int.reduceToNat, reduceIte, reduceCtorEq, Nat.reduceBEq, calV]
  refine into' (w64 (s30 * 15183074304973897243)) 0 s32 d31 (Nat.mod_lt _ (by decide)) (by decide) hs32 hd31 _ rfl _ rfl ?_
  intro z32 d32 hz32 hd32 f32
  refine drun_drive 20 (p := (_, _)) ?_
  simp only [go_sem, Nat.reduceAdd, Nat.reduceSub, Nat.reduceLeDiff, Nat.reduceMul, Nat.reduceLT, Nat.reduceEqDiff, Int.reduceLT, Int.reduceLE, Int.reduceAdd, Int.reduceSub, Int.reduceMul, Int.reduceToNat, reduceIte, reduceCtorEq, Nat.reduceBEq]
  refine drun_end ?_
  refine run_drive 40 ?_
  simp only [go_sem, Nat.reduceAdd, Nat.reduceSub, Nat.reduceLeDiff, Nat.reduceMul, Nat.reduceLT, Nat.reduceEqDiff, Int.reduceLT, Int.reduceLE, Int.reduceAdd, Int.reduceSub, Int.reduceMul, Int.reduceToNat, reduceIte, reduceCtorEq, Nat.reduceBEq, v22_22]
  refine run_loop ?_
  refine run_drive 40 ?_
  simp only [go_sem, Nat.reduceAdd, Nat.reduceSub, Nat.reduceLeDiff, Nat.reduceMul, Nat.reduceLT, Nat.reduceEqDiff, Int.reduceLT, Int.reduceLE, Int.reduceAdd, Int.reduceSub, Int.reduceMul, Int.reduceToNat, reduceIte, reduceCtorEq, Nat.reduceBEq, v22_23, v22_19, v22_21]
  refine run_drw (by kernel_rfl) ?_
  refine drun_drive 30 (p := (_, _)) ?_
  simp only [go_sem, Nat.reduceAdd, Nat.reduceSub, Nat.reduceLeDiff, Nat.reduceMul, Nat.reduceLT, Nat.reduceEqDiff, Int.reduceLT, Int.reduceLE, Int.reduceAdd, Int.reduceSub, Int.reduceMul, Int.reduceToNat, reduceIte, reduceCtorEq, Nat.reduceBEq, v22_20, hG, tbl]
  refine drun_call' ?_
  simp only [go_sem, Nat.reduceAdd, Nat.reduceSub, Nat.reduceLeDiff, Nat.reduceMul, Nat.reduceLT, Nat.reduceEqDiff, Int.reduceLT, Int.reduceLE, Int.reduceAdd, Int.reduceSub, Int.reduceMul, Int.reduceToNat, reduceIte, reduceCtorEq, Nat.reduceBEq, calV]
  refine into' (w64 (s30 * 15183074304973897243)) 1152921504606846976 s33 d32 (Nat.mod_lt _ (by decide)) (by decide) hs33 hd32 _ rfl _ rfl ?_
  intro z33 d33 hz33 hd33 f33
  refine drun_drive 20 (p := (_, _)) ?_
  simp only [go_sem, Nat.reduceAdd, Nat.reduceSub, Nat.reduceLeDiff, Nat.reduceMul, Nat.reduceLT, Nat.reduceEqDiff, Int.reduceLT, Int.reduceLE, Int.reduceAdd, Int.reduceSub, Int.reduceMul, Int.reduceToNat, reduceIte, reduceCtorEq, Nat.reduceBEq]
  refine drun_end ?_
  refine run_drive 40 ?_
  simp only [go_sem, Nat.reduceAdd, Nat.reduceSub, Nat.reduceLeDiff, Nat.reduceMul, Nat.reduceLT, Nat.reduceEqDiff, Int.reduceLT, Int.reduceLE, Int.reduceAdd, Int.reduceSub, Int.reduceMul, Int.reduceToNat, reduceIte, reduceCtorEq, Nat.reduceBEq, v22_22]
  refine run_loop ?_
  refine run_drive 40 ?_
  simp only [go_sem, Nat.reduceAdd, Nat.reduceSub, Nat.reduceLeDiff, Nat.reduceMul, Nat.reduceLT, Nat.reduceEqDiff, Int.reduceLT, Int.reduceLE, Int.reduceAdd, Int.reduceSub, Int.reduceMul, Int.reduceToNat, reduceIte, reduceCtorEq, Nat.reduceBEq, v22_23, v22_19, v22_25]
  refine run_call' rfl ?_
  simp only [go_sem, Nat.reduceAdd, Nat.reduceSub, Nat.reduceLeDiff, Nat.reduceMul, Nat.reduceLT, Nat.reduceEqDiff, Int.reduceLT, Int.reduceLE, Int.reduceAdd, Int.reduceSub, Int.reduceMul, Int.reduceToNat, reduceIte, reduceCtorEq, Nat.reduceBEq, calV]
  refine add64_c s34 d33 0 (by decide) hs34 hd33 _ rfl _ rfl ?_
  intro z34 k35 hz34 hk35 f34
  refine run_drive 40 ?_
  simp only [go_sem, Nat.reduceAdd, Nat.reduceSub, Nat.reduceLeDiff, Nat.reduceMul, Nat.reduceLT, Nat.reduceEqDiff, Int.reduceLT, Int.reduceLE, Int.reduceAdd, Int.reduceSub, Int.reduceMul, Int.reduceToNat, reduceIte, reduceCtorEq, Nat.reduceBEq, v22_26, v22_28]
  obtain ⟨w3, T3, m3, M3⟩ := round_law a0 a1 a2 a3 b3 z21 z22 z23 z24 s30 s31 s32 s33 s34 c30 c31 c32 c33 k34 z30 z31 z32 z33 z34 d30 d31 d32 d33 k35 hb3 hA T2 hs30 hz30 hz31 hz32 hz33 hz34 e30 e31 e32 e33 e34 f30 f31 f32 f33 f34
  rw [w3]
  clear e30 e31 e32 e33 e34 f30 f31 f32 f33 f34 w3
  refine run_loop ?_
  refine run_drive 40 ?_
  simp only [go_sem, Nat.reduceAdd, Nat.reduceSub, Nat.reduceLeDiff, Nat.reduceMul, Nat.reduceLT, Nat.reduceEqDiff, Int.reduceLT, Int.reduceLE, Int.reduceAdd, Int.reduceSub, Int.reduceMul, Int.reduceToNat, reduceIte, reduceCtorEq, Nat.reduceBEq, v22_29, v22_3, v22_31]
  refine run_call' rfl ?_
  simp only [go_sem, Nat.reduceAdd, Nat.reduceSub, Nat.reduceLeDiff, Nat.reduceMul, Nat.reduceLT, Nat.reduceEqDiff, Int.reduceLT, Int.reduceLE, Int.reduceAdd, Int.reduceSub, Int.reduceMul, Int.reduceToNat, reduceIte, reduceCtorEq, Nat.reduceBEq, calV]
  refine lower_c hG z31 z32 z33 z34 hz31 hz32 hz33 hz34 ?_
  intro g0 g1 g2 g3 hg0 hg1 hg2 hg3 eg
  refine run_drive 40 ?_
  simp only [go_sem, Nat.reduceAdd, Nat.reduceSub, Nat.reduceLeDiff, Nat.reduceMul, Nat.reduceLT, Nat.reduceEqDiff, Int.reduceLT, Int.reduceLE, Int.reduceAdd, Int.reduceSub, Int.reduceMul, Int.reduceToNat, reduceIte, reduceCtorEq, Nat.reduceBEq]
  have hR : (g0 + 18446744073709551616 * g1 + 340282366920938463463374607431768211456 * g2 + 6277101735386680763835789423207666416102355444464034512896 * g3) < ell ∧ ((g0 + 18446744073709551616 * g1 + 340282366920938463463374607431768211456 * g2 + 6277101735386680763835789423207666416102355444464034512896 * g3) = (z31 + 18446744073709551616 * z32 + 340282366920938463463374607431768211456 * z33 + 6277101735386680763835789423207666416102355444464034512896 * z34) ∨ (g0 + 18446744073709551616 * g1 + 340282366920938463463374607431768211456 * g2 + 6277101735386680763835789423207666416102355444464034512896 * g3) + ell = (z31 + 18446744073709551616 * z32 + 340282366920938463463374607431768211456 * z33 + 6277101735386680763835789423207666416102355444464034512896 * z34)) := by
    clear M0 M1 M2 M3
    rw [eg]
    unfold ell
    split <;> omega
  refine run_ret_drop Tryd.func22 res22 [] (lw (g0 + 18446744073709551616 * g1 + 340282366920938463463374607431768211456 * g2 + 6277101735386680763835789423207666416102355444464034512896 * g3)) [] rfl (by simp) trivial (by simp [uniq]) ?_ (hQ _ hR.1 ?_)
  · rw [lw_of hg0 hg1 hg2 hg3]
    simp only [go_sem, Nat.reduceAdd, Nat.reduceSub, Nat.reduceLeDiff, Nat.reduceMul, Nat.reduceLT, Nat.reduceEqDiff, Int.reduceLT, Int.reduceLE, Int.reduceAdd, Int.reduceSub, Int.reduceMul, Int.reduceToNat, reduceIte, reduceCtorEq, Nat.reduceBEq, r22, ren, rens]
  · exact mont_law M0 M1 M2 M3 hR.2
end Go.Vs.Tryd
