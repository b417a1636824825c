/- T1: what the functions of the program answer, over the machine of plain values. -/
import Derived.Test.YtaalannjlomiiaaDoorCode
import Derived.Test.YtaalannjlomiiaaDoorM3
set_option linter.unusedVariables false
set_option linter.unusedSimpArgs false
namespace Go.Vs.Tryd
open Go.Proofs
variable {G : Nat → List V}
set_option linter.unusedSimpArgs false
attribute [local go_sem] drive stepV exo expo evs fillV isNil nilKind eqV eqL optA optM sliceAtV ev kn V.known V.one ldc stc splice cellsOf asK asN asB asS asG asT appV srcV lenV setd wantV exitV rvs rv one List.length_cons List.length_nil List.cons_append List.nil_append List.append_nil List.replicate List.getD_cons_zero List.getD_cons_succ List.set_cons_zero List.set_cons_succ List.getElem?_cons_zero List.getElem?_cons_succ List.getElem?_nil List.take_succ_cons List.take_zero List.take_nil List.drop_succ_cons List.drop_zero List.drop_nil List.all_cons List.all_nil List.any_cons List.any_nil Bool.and_true Bool.true_and Bool.and_self Option.map_some Option.map_none Option.bind_some Option.some.injEq Nat.add_zero Nat.zero_add Int.toNat_zero Int.toNat_one Int.zero_add Int.add_zero if_true if_false ite_true ite_false and_true true_and and_self ne_eq not_false_eq_true not_true_eq_false decide_true decide_false Bool.false_eq_true Bool.not_true Bool.not_false beq_self_eq_true BEq.rfl Bool.not_eq_true Nat.le_refl Int.le_refl Nat.zero_le List.foldl List.map_cons List.map_nil Prod.mk.injEq Int.cast_ofNat_Int Int.zero_le_ofNat b_add_cc b_add_cl b_add_lc b_mul_cc b_mul_cl b_mul_lc b_sub_cc b_sub_cl b_sub_lc b_and_cc b_and_cl b_and_lc b_or_cc b_or_cl b_or_lc b_xor_cc b_xor_cl b_xor_lc b_andNot_cc b_andNot_cl b_andNot_lc b_shr_cc b_shr_cl b_shr_lc b_shl_cc b_shl_cl b_shl_lc b_lss b_leq b_gtr b_geq b_add_i b_sub_i b_mul_i beq_cc beq_cl beq_lc beq_ll b_quo_i b_rem_i neg_u64 wrap_i64 driveD stepD idsAt idOf maskH_nil restore_nil restore_mask List.filterMap_nil List.filterMap_cons VOp.looks VOp.makes exA
def u (n : Nat) : V := .int .u64 (n : Int)
/-- A number's four limbs. -/
def lc (n : Nat) : List V := [u (n % 18446744073709551616), u (n / 18446744073709551616 % 18446744073709551616), u (n / 340282366920938463463374607431768211456 % 18446744073709551616), u (n / 6277101735386680763835789423207666416102355444464034512896 % 18446744073709551616)]
def lw (n : Nat) : V := .agg (lc n)

noncomputable def sub64E : Array Value → Sem Value := (Extern.find Tryd.f41).getD fun _ => Pure.pure undef
theorem sub64E_run (P : Program) (x y b : Nat) (hb : b ≤ 1) (w : World) : (sub64E #[.int .u64 x, .int .u64 y, .int .u64 b]).run P w =
      .ok (.tuple #[.int .u64 (((x + 18446744073709551616 - y - b) % 18446744073709551616 : Nat) : Int), .int .u64 ((if x < y + b then 1 else 0 : Nat) : Int)]) w := by
  have : b = 0 ∨ b = 1 := by omega
  rcases this with rfl | rfl <;> rfl

theorem sub64 (x y c : Nat) (ci : Int) (hci : ci = (c : Int)) (hc : c ≤ 1) (hx : x < 18446744073709551616) (hy : y < 18446744073709551616) {h : Heap} {R : V → Heap → Prop} (hq : ∀ d b : Nat, d < 18446744073709551616 → b ≤ 1 → x + 18446744073709551616 * b = y + c + d → R (.tup [.int .u64 (d : Int), .int .u64 (b : Int)]) h) : VCall Tryd.prog G 41 [.int .u64 (x : Int), .int .u64 (y : Int), .int .u64 ci] h R := by
  subst hci
  refine vcall_plain (vcall_value (v := .tup [u ((x + 18446744073709551616 - y - c) % 18446744073709551616), u (if x < y + c then 1 else 0)]) [.int .u64 x, .int .u64 y, .int .u64 c] (.tuple #[.int .u64 ((x + 18446744073709551616 - y - c) % 18446744073709551616 : Nat), .int .u64 ((if x < y + c then 1 else 0 : Nat) : Int)]) (by simp only [concs, conc, Option.bind_some, Option.map_some]) (by simp only [u, concs, conc, Option.bind_some, Option.map_some]) fun w => ?_) (fun g => by simp only [rens, ren]) (fun v g hv => ?_) fun v hv => ?_
  · rw [run_callFunc_extern Tryd.func41 (by kernel_rfl) (by kernel_rfl) (by kernel_rfl) (e := sub64E) (by kernel_rfl)]
    rw [show (([.int .u64 x, .int .u64 y, .int .u64 c] : List Value).toArray) = #[.int .u64 (x : Int), .int .u64 (y : Int), .int .u64 (c : Int)] from rfl, sub64E_run _ x y c hc]
    rfl
  · subst hv; simp only [u, rens, ren]
  · subst hv
    refine hq _ _ (Nat.mod_lt _ (by decide)) (by split <;> omega) ?_
    split <;> omega

theorem lw_of {d0 d1 d2 d3 : Nat} (h0 : d0 < 18446744073709551616) (h1 : d1 < 18446744073709551616) (h2 : d2 < 18446744073709551616) (h3 : d3 < 18446744073709551616) :
    lw (d0 + 18446744073709551616 * d1 + 340282366920938463463374607431768211456 * d2 + 6277101735386680763835789423207666416102355444464034512896 * d3) = .agg [.int .u64 (d0 : Int), .int .u64 (d1 : Int), .int .u64 (d2 : Int), .int .u64 (d3 : Int)] := by
  have e0 : (d0 + 18446744073709551616 * d1 + 340282366920938463463374607431768211456 * d2 + 6277101735386680763835789423207666416102355444464034512896 * d3) % 18446744073709551616 = d0 := by omega
  have e1 : (d0 + 18446744073709551616 * d1 + 340282366920938463463374607431768211456 * d2 + 6277101735386680763835789423207666416102355444464034512896 * d3) / 18446744073709551616 % 18446744073709551616 = d1 := by omega
  have e2 : (d0 + 18446744073709551616 * d1 + 340282366920938463463374607431768211456 * d2 + 6277101735386680763835789423207666416102355444464034512896 * d3) / 340282366920938463463374607431768211456 % 18446744073709551616 = d2 := by omega
  have e3 : (d0 + 18446744073709551616 * d1 + 340282366920938463463374607431768211456 * d2 + 6277101735386680763835789423207666416102355444464034512896 * d3) / 6277101735386680763835789423207666416102355444464034512896 % 18446744073709551616 = d3 := by omega
  unfold lw lc u
  rw [e0, e1, e2, e3]

theorem limbs (A : Nat) : ∃ a0 a1 a2 a3 : Nat, a0 < 18446744073709551616 ∧ a1 < 18446744073709551616 ∧ a2 < 18446744073709551616 ∧ a3 < 18446744073709551616 ∧ lw A = .agg [.int .u64 (a0 : Int), .int .u64 (a1 : Int), .int .u64 (a2 : Int), .int .u64 (a3 : Int)] ∧
    (A < 115792089237316195423570985008687907853269984665640564039457584007913129639936 → A = a0 + 18446744073709551616 * a1 + 340282366920938463463374607431768211456 * a2 + 6277101735386680763835789423207666416102355444464034512896 * a3) := by
  refine ⟨_, _, _, _, Nat.mod_lt _ (by decide), Nat.mod_lt _ (by decide), Nat.mod_lt _ (by decide), Nat.mod_lt _ (by decide), rfl, fun h => ?_⟩
  omega

set_option maxHeartbeats 4000000
theorem minus (A B : Nat) (hA : A < 115792089237316195423570985008687907853269984665640564039457584007913129639936) (hB : B < 115792089237316195423570985008687907853269984665640564039457584007913129639936) (Q : V → Heap → Prop)
    (hQ : ∀ D b : Nat, D < 115792089237316195423570985008687907853269984665640564039457584007913129639936 → b ≤ 1 → A + 115792089237316195423570985008687907853269984665640564039457584007913129639936 * b = B + D → Q (.tup [lw D, u b]) []) : VCall Tryd.prog G 33 [lw A, lw B] [] Q := by
  refine vcall_body Tryd.func33 nm33 code33 nt33 ?_
  obtain ⟨a0, a1, a2, a3, ha0, ha1, ha2, ha3, ea, eA⟩ := limbs A
  obtain ⟨b0, b1, b2, b3, hb0, hb1, hb2, hb3, eb, eB⟩ := limbs B
  rw [ea, eb]
  refine run_drive 40 ?_
  simp only [go_sem, Nat.reduceAdd, Nat.reduceSub, Nat.reduceLeDiff, Nat.reduceMul, Nat.reduceLT, Nat.reduceEqDiff, Int.reduceLT, Int.reduceLE, Int.reduceAdd, Int.reduceSub, Int.reduceMul, Int.reduceToNat, reduceIte, reduceCtorEq, Nat.reduceBEq, v33, v33_0, v33_1, v33_2, v33_3, v33_10]
  refine run_loop ?_
  refine run_drive 40 ?_
  simp only [go_sem, Nat.reduceAdd, Nat.reduceSub, Nat.reduceLeDiff, Nat.reduceMul, Nat.reduceLT, Nat.reduceEqDiff, Int.reduceLT, Int.reduceLE, Int.reduceAdd, Int.reduceSub, Int.reduceMul, Int.reduceToNat, reduceIte, reduceCtorEq, Nat.reduceBEq, v33_9, v33_4, v33_5, v33_7]
  refine run_drw (by kernel_rfl) ?_
  refine drun_drive 20 (p := (_, _)) ?_
  simp only [go_sem, Nat.reduceAdd, Nat.reduceSub, Nat.reduceLeDiff, Nat.reduceMul, Nat.reduceLT, Nat.reduceEqDiff, Int.reduceLT, Int.reduceLE, Int.reduceAdd, Int.reduceSub, Int.reduceMul, Int.reduceToNat, reduceIte, reduceCtorEq, Nat.reduceBEq, v33_6]
  refine drun_call' ?_
  simp only [go_sem, Nat.reduceAdd, Nat.reduceSub, Nat.reduceLeDiff, Nat.reduceMul, Nat.reduceLT, Nat.reduceEqDiff, Int.reduceLT, Int.reduceLE, Int.reduceAdd, Int.reduceSub, Int.reduceMul, Int.reduceToNat, reduceIte, reduceCtorEq, Nat.reduceBEq, calV]
  refine sub64 _ _ _ _ (by first | exact Int.natCast_zero.symm | rfl) (by first | decide | assumption) (by assumption) (by assumption) ?_
  intro d0 c0 hd0 hc0 he0
  refine drun_drive 20 (p := (_, _)) ?_
  simp only [go_sem, Nat.reduceAdd, Nat.reduceSub, Nat.reduceLeDiff, Nat.reduceMul, Nat.reduceLT, Nat.reduceEqDiff, Int.reduceLT, Int.reduceLE, Int.reduceAdd, Int.reduceSub, Int.reduceMul, Int.reduceToNat, reduceIte, reduceCtorEq, Nat.reduceBEq]
  refine drun_end ?_
  refine run_drive 40 ?_
  simp only [go_sem, Nat.reduceAdd, Nat.reduceSub, Nat.reduceLeDiff, Nat.reduceMul, Nat.reduceLT, Nat.reduceEqDiff, Int.reduceLT, Int.reduceLE, Int.reduceAdd, Int.reduceSub, Int.reduceMul, Int.reduceToNat, reduceIte, reduceCtorEq, Nat.reduceBEq, v33_8]
  refine run_loop ?_
  refine run_drive 40 ?_
  simp only [go_sem, Nat.reduceAdd, Nat.reduceSub, Nat.reduceLeDiff, Nat.reduceMul, Nat.reduceLT, Nat.reduceEqDiff, Int.reduceLT, Int.reduceLE, Int.reduceAdd, Int.reduceSub, Int.reduceMul, Int.reduceToNat, reduceIte, reduceCtorEq, Nat.reduceBEq, v33_9, v33_4, v33_5, v33_7]
  refine run_drw (by kernel_rfl) ?_
  refine drun_drive 20 (p := (_, _)) ?_
  simp only [go_sem, Nat.reduceAdd, Nat.reduceSub, Nat.reduceLeDiff, Nat.reduceMul, Nat.reduceLT, Nat.reduceEqDiff, Int.reduceLT, Int.reduceLE, Int.reduceAdd, Int.reduceSub, Int.reduceMul, Int.reduceToNat, reduceIte, reduceCtorEq, Nat.reduceBEq, v33_6]
  refine drun_call' ?_
  simp only [go_sem, Nat.reduceAdd, Nat.reduceSub, Nat.reduceLeDiff, Nat.reduceMul, Nat.reduceLT, Nat.reduceEqDiff, Int.reduceLT, Int.reduceLE, Int.reduceAdd, Int.reduceSub, Int.reduceMul, Int.reduceToNat, reduceIte, reduceCtorEq, Nat.reduceBEq, calV]
  refine sub64 _ _ _ _ (by first | exact Int.natCast_zero.symm | rfl) (by first | decide | assumption) (by assumption) (by assumption) ?_
  intro d1 c1 hd1 hc1 he1
  refine drun_drive 20 (p := (_, _)) ?_
  simp only [go_sem, Nat.reduceAdd, Nat.reduceSub, Nat.reduceLeDiff, Nat.reduceMul, Nat.reduceLT, Nat.reduceEqDiff, Int.reduceLT, Int.reduceLE, Int.reduceAdd, Int.reduceSub, Int.reduceMul, Int.reduceToNat, reduceIte, reduceCtorEq, Nat.reduceBEq]
  refine drun_end ?_
  refine run_drive 40 ?_
  simp only [go_sem, Nat.reduceAdd, Nat.reduceSub, Nat.reduceLeDiff, Nat.reduceMul, Nat.reduceLT, Nat.reduceEqDiff, Int.reduceLT, Int.reduceLE, Int.reduceAdd, Int.reduceSub, Int.reduceMul, Int.reduceToNat, reduceIte, reduceCtorEq, Nat.reduceBEq, v33_8]
  refine run_loop ?_
  refine run_drive 40 ?_
  simp only [go_sem, Nat.reduceAdd, Nat.reduceSub, Nat.reduceLeDiff, Nat.reduceMul, Nat.reduceLT, Nat.reduceEqDiff, Int.reduceLT, Int.reduceLE, Int.reduceAdd, Int.reduceSub, Int.reduceMul, Int.reduceToNat, reduceIte, reduceCtorEq, Nat.reduceBEq, v33_9, v33_4, v33_5, v33_7]
  refine run_drw (by kernel_rfl) ?_
  refine drun_drive 20 (p := (_, _)) ?_
  simp only [go_sem, Nat.reduceAdd, Nat.reduceSub, Nat.reduceLeDiff, Nat.reduceMul, Nat.reduceLT, Nat.reduceEqDiff, Int.reduceLT, Int.reduceLE, Int.reduceAdd, Int.reduceSub, Int.reduceMul, Int.reduceToNat, reduceIte, reduceCtorEq, Nat.reduceBEq, v33_6]
  refine drun_call' ?_
  simp only [go_sem, Nat.reduceAdd, Nat.reduceSub, Nat.reduceLeDiff, Nat.reduceMul, Nat.reduceLT, Nat.reduceEqDiff, Int.reduceLT, Int.reduceLE, Int.reduceAdd, Int.reduceSub, Int.reduceMul, Int.reduceToNat, reduceIte, reduceCtorEq, Nat.reduceBEq, calV]
  refine sub64 _ _ _ _ (by first | exact Int.natCast_zero.symm | rfl) (by first | decide | assumption) (by assumption) (by assumption) ?_
  intro d2 c2 hd2 hc2 he2
  refine drun_drive 20 (p := (_, _)) ?_
  simp only [go_sem, Nat.reduceAdd, Nat.reduceSub, Nat.reduceLeDiff, Nat.reduceMul, Nat.reduceLT, Nat.reduceEqDiff, Int.reduceLT, Int.reduceLE, Int.reduceAdd, Int.reduceSub, Int.reduceMul, Int.reduceToNat, reduceIte, reduceCtorEq, Nat.reduceBEq]
  refine drun_end ?_
  refine run_drive 40 ?_
  simp only [go_sem, Nat.reduceAdd, Nat.reduceSub, Nat.reduceLeDiff, Nat.reduceMul, Nat.reduceLT, Nat.reduceEqDiff, Int.reduceLT, Int.reduceLE, Int.reduceAdd, Int.reduceSub, Int.reduceMul, Int.reduceToNat, reduceIte, reduceCtorEq, Nat.reduceBEq, v33_8]
  refine run_loop ?_
  refine run_drive 40 ?_
  simp only [go_sem, Nat.reduceAdd, Nat.reduceSub, Nat.reduceLeDiff, Nat.reduceMul, Nat.reduceLT, Nat.reduceEqDiff, Int.reduceLT, Int.reduceLE, Int.reduceAdd, Int.reduceSub, Int.reduceMul, Int.reduceToNat, reduceIte, reduceCtorEq, Nat.reduceBEq, v33_9, v33_4, v33_5, v33_7]
  refine run_drw (by kernel_rfl) ?_
  refine drun_drive 20 (p := (_, _)) ?_
  simp only [go_sem, Nat.reduceAdd, Nat.reduceSub, Nat.reduceLeDiff, Nat.reduceMul, Nat.reduceLT, Nat.reduceEqDiff, Int.reduceLT, Int.reduceLE, Int.reduceAdd, Int.reduceSub, Int.reduceMul, Int.reduceToNat, reduceIte, reduceCtorEq, Nat.reduceBEq, v33_6]
  refine drun_call' ?_
  simp only [go_sem, Nat.reduceAdd, Nat.reduceSub, Nat.reduceLeDiff, Nat.reduceMul, Nat.reduceLT, Nat.reduceEqDiff, Int.reduceLT, Int.reduceLE, Int.reduceAdd, Int.reduceSub, Int.reduceMul, Int.reduceToNat, reduceIte, reduceCtorEq, Nat.reduceBEq, calV]
  refine sub64 _ _ _ _ (by first | exact Int.natCast_zero.symm | rfl) (by first | decide | assumption) (by assumption) (by assumption) ?_
  intro d3 c3 hd3 hc3 he3
  refine drun_drive 20 (p := (_, _)) ?_
  simp only [go_sem, Nat.reduceAdd, Nat.reduceSub, Nat.reduceLeDiff, Nat.reduceMul, Nat.reduceLT, Nat.reduceEqDiff, Int.reduceLT, Int.reduceLE, Int.reduceAdd, Int.reduceSub, Int.reduceMul, Int.reduceToNat, reduceIte, reduceCtorEq, Nat.reduceBEq]
  refine drun_end ?_
  refine run_drive 40 ?_
  simp only [go_sem, Nat.reduceAdd, Nat.reduceSub, Nat.reduceLeDiff, Nat.reduceMul, Nat.reduceLT, Nat.reduceEqDiff, Int.reduceLT, Int.reduceLE, Int.reduceAdd, Int.reduceSub, Int.reduceMul, Int.reduceToNat, reduceIte, reduceCtorEq, Nat.reduceBEq, v33_8]
  refine run_loop ?_
  refine run_drive 40 ?_
  simp only [go_sem, Nat.reduceAdd, Nat.reduceSub, Nat.reduceLeDiff, Nat.reduceMul, Nat.reduceLT, Nat.reduceEqDiff, Int.reduceLT, Int.reduceLE, Int.reduceAdd, Int.reduceSub, Int.reduceMul, Int.reduceToNat, reduceIte, reduceCtorEq, Nat.reduceBEq, v33_9, v33_4, v33_11]
  refine run_ret_drop Tryd.func33 res33 [] (.tup [lw (d0 + 18446744073709551616 * d1 + 340282366920938463463374607431768211456 * d2 + 6277101735386680763835789423207666416102355444464034512896 * d3), u c3]) [] rfl (by simp) trivial (by simp [uniq]) ?_ (hQ _ _ ?_ hc3 ?_)
  · rw [lw_of hd0 hd1 hd2 hd3]
    simp only [go_sem, Nat.reduceAdd, Nat.reduceSub, Nat.reduceLeDiff, Nat.reduceMul, Nat.reduceLT, Nat.reduceEqDiff, Int.reduceLT, Int.reduceLE, Int.reduceAdd, Int.reduceSub, Int.reduceMul, Int.reduceToNat, reduceIte, reduceCtorEq, Nat.reduceBEq, r33, ren, rens, u]
  · omega
  · rw [eA hA, eB hB]; omega

theorem mul64 (x y : Nat) (hx : x < 18446744073709551616) (hy : y < 18446744073709551616) {Q : V → Heap → Prop} (hQ : ∀ hi lo : Nat, hi < 18446744073709551616 → lo < 18446744073709551616 → x * y = 18446744073709551616 * hi + lo → Q (.tup [.int .u64 (hi : Int), .int .u64 (lo : Int)]) []) : VCall Tryd.prog G 31 [.int .u64 (x : Int), .int .u64 (y : Int)] [] Q := by
  refine vcall_body Tryd.func31 nm31 code31 nt31 ?_
  refine run_drive 100 ?_
  simp only [go_sem, Nat.reduceAdd, Nat.reduceSub, Nat.reduceLeDiff, Nat.reduceMul, Nat.reduceLT, Nat.reduceEqDiff, Int.reduceLT, Int.reduceLE, Int.reduceAdd, Int.reduceSub, Int.reduceMul, Int.reduceToNat, reduceIte, reduceCtorEq, Nat.reduceBEq, v31_0, v31_1, v31_2, v31_3, v31_4, v31_5, v31_6, v31_7, v31_8, v31_9, v31_10, v31_11, v31]
  refine run_ret' Tryd.func31 res31 ?_
  simp only [go_sem, Nat.reduceAdd, Nat.reduceSub, Nat.reduceLeDiff, Nat.reduceMul, Nat.reduceLT, Nat.reduceEqDiff, Int.reduceLT, Int.reduceLE, Int.reduceAdd, Int.reduceSub, Int.reduceMul, Int.reduceToNat, reduceIte, reduceCtorEq, Nat.reduceBEq, r31]
  exact hQ _ _ (Nat.mod_lt _ (by decide)) (Nat.mod_lt _ (by decide)) (mul64_law x y hx hy)

noncomputable def add64E : Array Value → Sem Value := (Extern.find Tryd.f32).getD fun _ => Pure.pure undef
theorem add64E_run (P : Program) (x y b : Nat) (hb : b ≤ 1) (w : World) : (add64E #[.int .u64 x, .int .u64 y, .int .u64 b]).run P w =
      .ok (.tuple #[.int .u64 (((x + y + b) % 18446744073709551616 : Nat) : Int), .int .u64 (((x + y + b) / 18446744073709551616 : Nat) : Int)]) w := by
  have : b = 0 ∨ b = 1 := by omega
  rcases this with rfl | rfl <;> rfl

theorem add64 (x y c : Nat) (ci : Int) (hci : ci = (c : Int)) (hc : c ≤ 1) (hx : x < 18446744073709551616) (hy : y < 18446744073709551616) {h : Heap} {R : V → Heap → Prop} (hq : ∀ d b : Nat, d < 18446744073709551616 → b ≤ 1 → x + y + c = 18446744073709551616 * b + d → R (.tup [.int .u64 (d : Int), .int .u64 (b : Int)]) h) : VCall Tryd.prog G 32 [.int .u64 (x : Int), .int .u64 (y : Int), .int .u64 ci] h R := by
  subst hci
  refine vcall_plain (vcall_value (v := .tup [u ((x + y + c) % 18446744073709551616), u ((x + y + c) / 18446744073709551616)]) [.int .u64 x, .int .u64 y, .int .u64 c] (.tuple #[.int .u64 ((x + y + c) % 18446744073709551616 : Nat), .int .u64 (((x + y + c) / 18446744073709551616 : Nat) : Int)]) (by simp only [concs, conc, Option.bind_some, Option.map_some]) (by simp only [u, concs, conc, Option.bind_some, Option.map_some]) fun w => ?_) (fun g => by simp only [rens, ren]) (fun v g hv => ?_) fun v hv => ?_
  · rw [run_callFunc_extern Tryd.func32 (by kernel_rfl) (by kernel_rfl) (by kernel_rfl) (e := add64E) (by kernel_rfl)]
    rw [show (([.int .u64 x, .int .u64 y, .int .u64 c] : List Value).toArray) = #[.int .u64 (x : Int), .int .u64 (y : Int), .int .u64 (c : Int)] from rfl, add64E_run _ x y c hc]
    rfl
  · subst hv; simp only [u, rens, ren]
  · subst hv
    exact hq _ _ (Nat.mod_lt _ (by decide)) (by omega) (by omega)

theorem mul64' (x y : Nat) (hx : x < 18446744073709551616) (hy : y < 18446744073709551616) {h : Heap} {R : V → Heap → Prop} (hQ : ∀ hi lo : Nat, hi < 18446744073709551616 → lo < 18446744073709551616 → x * y = 18446744073709551616 * hi + lo → R (.tup [.int .u64 (hi : Int), .int .u64 (lo : Int)]) h) : VCall Tryd.prog G 31 [.int .u64 (x : Int), .int .u64 (y : Int)] h R := by
  refine vcall_plain (Q := fun v => ∃ hi lo : Nat, hi < 18446744073709551616 ∧ lo < 18446744073709551616 ∧ x * y = 18446744073709551616 * hi + lo ∧ v = .tup [.int .u64 (hi : Int), .int .u64 (lo : Int)]) (mul64 x y hx hy fun hi lo h1 h2 h3 => ⟨⟨hi, lo, h1, h2, h3, rfl⟩, rfl⟩) (fun g => by simp only [rens, ren]) ?_ ?_
  · rintro v g ⟨hi, lo, _, _, _, rfl⟩; simp only [rens, ren]
  · rintro v ⟨hi, lo, h1, h2, h3, rfl⟩; exact hQ hi lo h1 h2 h3

theorem into (x y z c : Nat) (hx : x < 18446744073709551616) (hy : y < 18446744073709551616) (hz : z < 18446744073709551616) (hc : c < 18446744073709551616) {Q : V → Heap → Prop} (hQ : ∀ lo hi : Nat, lo < 18446744073709551616 → hi < 18446744073709551616 → x * y + z + c = 18446744073709551616 * hi + lo → Q (.tup [.int .u64 (lo : Int), .int .u64 (hi : Int)]) []) :
    VCall Tryd.prog G 37 [.int .u64 (x : Int), .int .u64 (y : Int), .int .u64 (z : Int), .int .u64 (c : Int)] [] Q := by
  refine vcall_body Tryd.func37 nm37 code37 nt37 ?_
  refine run_drive 100 ?_
  simp only [go_sem, Nat.reduceAdd, Nat.reduceSub, Nat.reduceLeDiff, Nat.reduceMul, Nat.reduceLT, Nat.reduceEqDiff, Int.reduceLT, Int.reduceLE, Int.reduceAdd, Int.reduceSub, Int.reduceMul, Int.reduceToNat, reduceIte, reduceCtorEq, Nat.reduceBEq, v37_0, v37_1, v37_2, v37_3, v37_4, v37_5, v37]
  refine run_call' rfl ?_
  simp only [go_sem, Nat.reduceAdd, Nat.reduceSub, Nat.reduceLeDiff, Nat.reduceMul, Nat.reduceLT, Nat.reduceEqDiff, Int.reduceLT, Int.reduceLE, Int.reduceAdd, Int.reduceSub, Int.reduceMul, Int.reduceToNat, reduceIte, reduceCtorEq, Nat.reduceBEq, calV]
  refine mul64' _ _ hx hy ?_
  intro h1 l1 hh1 hl1 e1
  refine run_drive 100 ?_
  simp only [go_sem, Nat.reduceAdd, Nat.reduceSub, Nat.reduceLeDiff, Nat.reduceMul, Nat.reduceLT, Nat.reduceEqDiff, Int.reduceLT, Int.reduceLE, Int.reduceAdd, Int.reduceSub, Int.reduceMul, Int.reduceToNat, reduceIte, reduceCtorEq, Nat.reduceBEq]
  refine run_call' rfl ?_
  simp only [go_sem, Nat.reduceAdd, Nat.reduceSub, Nat.reduceLeDiff, Nat.reduceMul, Nat.reduceLT, Nat.reduceEqDiff, Int.reduceLT, Int.reduceLE, Int.reduceAdd, Int.reduceSub, Int.reduceMul, Int.reduceToNat, reduceIte, reduceCtorEq, Nat.reduceBEq, calV]
  refine add64 _ _ 0 _ rfl (by decide) hl1 hz ?_
  intro l2 k2 hl2 hk2 e2
  refine run_drive 100 ?_
  simp only [go_sem, Nat.reduceAdd, Nat.reduceSub, Nat.reduceLeDiff, Nat.reduceMul, Nat.reduceLT, Nat.reduceEqDiff, Int.reduceLT, Int.reduceLE, Int.reduceAdd, Int.reduceSub, Int.reduceMul, Int.reduceToNat, reduceIte, reduceCtorEq, Nat.reduceBEq]
  refine run_call' rfl ?_
  simp only [go_sem, Nat.reduceAdd, Nat.reduceSub, Nat.reduceLeDiff, Nat.reduceMul, Nat.reduceLT, Nat.reduceEqDiff, Int.reduceLT, Int.reduceLE, Int.reduceAdd, Int.reduceSub, Int.reduceMul, Int.reduceToNat, reduceIte, reduceCtorEq, Nat.reduceBEq, calV]
  refine add64 _ _ 0 _ rfl (by decide) hl2 hc ?_
  intro l3 k3 hl3 hk3 e3
  refine run_drive 100 ?_
  simp only [go_sem, Nat.reduceAdd, Nat.reduceSub, Nat.reduceLeDiff, Nat.reduceMul, Nat.reduceLT, Nat.reduceEqDiff, Int.reduceLT, Int.reduceLE, Int.reduceAdd, Int.reduceSub, Int.reduceMul, Int.reduceToNat, reduceIte, reduceCtorEq, Nat.reduceBEq]
  refine run_ret' Tryd.func37 res37 ?_
  simp only [go_sem, Nat.reduceAdd, Nat.reduceSub, Nat.reduceLeDiff, Nat.reduceMul, Nat.reduceLT, Nat.reduceEqDiff, Int.reduceLT, Int.reduceLE, Int.reduceAdd, Int.reduceSub, Int.reduceMul, Int.reduceToNat, reduceIte, reduceCtorEq, Nat.reduceBEq, r37]
  have hb : x * y ≤ 18446744073709551615 * 18446744073709551615 := Nat.mul_le_mul (by omega) (by omega)
  generalize x * y = p at *
  refine hQ _ _ hl3 (Nat.mod_lt _ (by decide)) ?_
  simp only [w64]
  omega
theorem into' (x y z c : Nat) (hx : x < 18446744073709551616) (hy : y < 18446744073709551616) (hz : z < 18446744073709551616) (hc : c < 18446744073709551616) (ci : Int) (hci : ci = (c : Int)) (zi : Int) (hzi : zi = (z : Int)) {h : Heap} {R : V → Heap → Prop} (hQ : ∀ lo hi : Nat, lo < 18446744073709551616 → hi < 18446744073709551616 → x * y + z + c = 18446744073709551616 * hi + lo → R (.tup [.int .u64 (lo : Int), .int .u64 (hi : Int)]) h) :
    VCall Tryd.prog G 37 [.int .u64 (x : Int), .int .u64 (y : Int), .int .u64 zi, .int .u64 ci] h R := by
  subst hci; subst hzi
  refine vcall_plain (Q := fun v => ∃ lo hi : Nat, lo < 18446744073709551616 ∧ hi < 18446744073709551616 ∧ x * y + z + c = 18446744073709551616 * hi + lo ∧ v = .tup [.int .u64 (lo : Int), .int .u64 (hi : Int)]) (into x y z c hx hy hz hc fun lo hi h1 h2 h3 => ⟨⟨lo, hi, h1, h2, h3, rfl⟩, rfl⟩) (fun g => by simp only [rens, ren]) ?_ ?_
  · rintro v g ⟨hi, lo, _, _, _, rfl⟩; simp only [rens, ren]
  · rintro v ⟨hi, lo, h1, h2, h3, rfl⟩; exact hQ hi lo h1 h2 h3
theorem minus' (A B : Nat) (hA : A < 115792089237316195423570985008687907853269984665640564039457584007913129639936) (hB : B < 115792089237316195423570985008687907853269984665640564039457584007913129639936) {h : Heap} {R : V → Heap → Prop}
    (hQ : ∀ D b : Nat, D < 115792089237316195423570985008687907853269984665640564039457584007913129639936 → b ≤ 1 → A + 115792089237316195423570985008687907853269984665640564039457584007913129639936 * b = B + D → R (.tup [lw D, u b]) h) : VCall Tryd.prog G 33 [lw A, lw B] h R := by
  refine vcall_plain (Q := fun v => ∃ D b : Nat, D < 115792089237316195423570985008687907853269984665640564039457584007913129639936 ∧ b ≤ 1 ∧ A + 115792089237316195423570985008687907853269984665640564039457584007913129639936 * b = B + D ∧ v = .tup [lw D, u b]) (minus A B hA hB _ fun D b h1 h2 h3 => ⟨⟨D, b, h1, h2, h3, rfl⟩, rfl⟩) (fun g => by simp only [rens, ren, lw, lc, u]) ?_ ?_
  · rintro v g ⟨hi, lo, _, _, _, rfl⟩; simp only [rens, ren, lw, lc, u]
  · rintro v ⟨hi, lo, h1, h2, h3, rfl⟩; exact hQ hi lo h1 h2 h3
end Go.Vs.Tryd
namespace Go.Vs.Tryd
open Go.Proofs
variable {G : Nat → List V}
set_option linter.unusedSimpArgs false
attribute [local go_sem] drive stepV exo expo evs fillV isNil nilKind eqV eqL optA optM sliceAtV ev kn V.known V.one ldc stc splice cellsOf asK asN asB asS asG asT appV srcV lenV setd wantV exitV rvs rv one List.length_cons List.length_nil List.cons_append List.nil_append List.append_nil List.replicate List.getD_cons_zero List.getD_cons_succ List.set_cons_zero List.set_cons_succ List.getElem?_cons_zero List.getElem?_cons_succ List.getElem?_nil List.take_succ_cons List.take_zero List.take_nil List.drop_succ_cons List.drop_zero List.drop_nil List.all_cons List.all_nil List.any_cons List.any_nil Bool.and_true Bool.true_and Bool.and_self Option.map_some Option.map_none Option.bind_some Option.some.injEq Nat.add_zero Nat.zero_add Int.toNat_zero Int.toNat_one Int.zero_add Int.add_zero if_true if_false ite_true ite_false and_true true_and and_self ne_eq not_false_eq_true not_true_eq_false decide_true decide_false Bool.false_eq_true Bool.not_true Bool.not_false beq_self_eq_true BEq.rfl Bool.not_eq_true Nat.le_refl Int.le_refl Nat.zero_le List.foldl List.map_cons List.map_nil Prod.mk.injEq Int.cast_ofNat_Int Int.zero_le_ofNat b_add_cc b_add_cl b_add_lc b_mul_cc b_mul_cl b_mul_lc b_sub_cc b_sub_cl b_sub_lc b_and_cc b_and_cl b_and_lc b_or_cc b_or_cl b_or_lc b_xor_cc b_xor_cl b_xor_lc b_andNot_cc b_andNot_cl b_andNot_lc b_shr_cc b_shr_cl b_shr_lc b_shl_cc b_shl_cl b_shl_lc b_lss b_leq b_gtr b_geq b_add_i b_sub_i b_mul_i beq_cc beq_cl beq_lc beq_ll b_quo_i b_rem_i neg_u64 wrap_i64 driveD stepD idsAt idOf maskH_nil restore_nil restore_mask List.filterMap_nil List.filterMap_cons VOp.looks VOp.makes exA

theorem lw_plain (n : Nat) (g : Nat → Nat) : ren g (lw n) = lw n := by simp only [rens, ren, lw, lc, u]
@[simp] theorem lc_len (n : Nat) : (lc n).length = 4 := rfl
theorem lc_take (n : Nat) : (lc n).take 4 = lc n := rfl
theorem lc_drop (n : Nat) : (lc n).drop 4 = [] := rfl
theorem lc_known (n : Nat) : (lc n).all V.known = true := rfl
theorem lc_one (n : Nat) : (lc n).all V.one = true := rfl
theorem lc_rens (n : Nat) (g : Nat → Nat) : rens g (lc n) = lc n := by simp only [rens, ren, lc, u]
theorem lc_cells (n : Nat) : cellsOf (lw n) = lc n := rfl
theorem lw_known (n : Nat) : (lw n).known = true := rfl
theorem lw_asG (n : Nat) : asG (lw n) = some (lc n) := rfl
theorem lw_agg (n : Nat) : V.agg (lc n) = lw n := rfl
theorem lc_zero : [V.int .u64 (nl 0), V.int .u64 (nl 0), V.int .u64 (nl 0), V.int .u64 (nl 0)] = lc 0 := rfl
theorem lc_fit (g : Nat → Nat) (n : Nat) : fit g (lc n) (lc n) := by simp only [fit, lc, u, ren, or_true, and_self]
theorem u_plain (n : Nat) (g : Nat → Nat) : ren g (u n) = u n := by simp only [ren, u]

set_option maxRecDepth 100000
set_option maxHeartbeats 1000000
theorem plus (A B : Nat) (hA : A < 115792089237316195423570985008687907853269984665640564039457584007913129639936) (hB : B < 115792089237316195423570985008687907853269984665640564039457584007913129639936) (Q : V → Heap → Prop)
    (hQ : ∀ D b : Nat, D < 115792089237316195423570985008687907853269984665640564039457584007913129639936 → b ≤ 1 → A + B = 115792089237316195423570985008687907853269984665640564039457584007913129639936 * b + D → Q (.tup [lw D, u b]) []) : VCall Tryd.prog G 34 [lw A, lw B] [] Q := by
  refine vcall_body Tryd.func34 nm34 code34 nt34 ?_
  obtain ⟨a0, a1, a2, a3, ha0, ha1, ha2, ha3, ea, eA⟩ := limbs A
  obtain ⟨b0, b1, b2, b3, hb0, hb1, hb2, hb3, eb, eB⟩ := limbs B
  rw [ea, eb]
  refine run_drive 40 ?_
  simp only [go_sem, Nat.reduceAdd, Nat.reduceSub, Nat.reduceLeDiff, Nat.reduceMul, Nat.reduceLT, Nat.reduceEqDiff, Int.reduceLT, Int.reduceLE, Int.reduceAdd, Int.reduceSub, Int.reduceMul, Int.reduceToNat, reduceIte, reduceCtorEq, Nat.reduceBEq, v34, v34_0, v34_1, v34_2, v34_3, v34_10]
  refine run_loop ?_
  refine run_drive 40 ?_
  simp only [go_sem, Nat.reduceAdd, Nat.reduceSub, Nat.reduceLeDiff, Nat.reduceMul, Nat.reduceLT, Nat.reduceEqDiff, Int.reduceLT, Int.reduceLE, Int.reduceAdd, Int.reduceSub, Int.reduceMul, Int.reduceToNat, reduceIte, reduceCtorEq, Nat.reduceBEq, v34_9, v34_4, v34_5, v34_7]
  refine run_drw (by kernel_rfl) ?_
  refine drun_drive 20 (p := (_, _)) ?_
  simp only [go_sem, Nat.reduceAdd, Nat.reduceSub, Nat.reduceLeDiff, Nat.reduceMul, Nat.reduceLT, Nat.reduceEqDiff, Int.reduceLT, Int.reduceLE, Int.reduceAdd, Int.reduceSub, Int.reduceMul, Int.reduceToNat, reduceIte, reduceCtorEq, Nat.reduceBEq, v34_6]
  refine drun_call' ?_
  simp only [go_sem, Nat.reduceAdd, Nat.reduceSub, Nat.reduceLeDiff, Nat.reduceMul, Nat.reduceLT, Nat.reduceEqDiff, Int.reduceLT, Int.reduceLE, Int.reduceAdd, Int.reduceSub, Int.reduceMul, Int.reduceToNat, reduceIte, reduceCtorEq, Nat.reduceBEq, calV]
  refine add64 _ _ _ _ (by first | exact Int.natCast_zero.symm | rfl) (by first | decide | assumption) (by assumption) (by assumption) ?_
  intro d0 c0 hd0 hc0 he0
  refine drun_drive 20 (p := (_, _)) ?_
  simp only [go_sem, Nat.reduceAdd, Nat.reduceSub, Nat.reduceLeDiff, Nat.reduceMul, Nat.reduceLT, Nat.reduceEqDiff, Int.reduceLT, Int.reduceLE, Int.reduceAdd, Int.reduceSub, Int.reduceMul, Int.reduceToNat, reduceIte, reduceCtorEq, Nat.reduceBEq]
  refine drun_end ?_
  refine run_drive 40 ?_
  simp only [go_sem, Nat.reduceAdd, Nat.reduceSub, Nat.reduceLeDiff, Nat.reduceMul, Nat.reduceLT, Nat.reduceEqDiff, Int.reduceLT, Int.reduceLE, Int.reduceAdd, Int.reduceSub, Int.reduceMul, Int.reduceToNat, reduceIte, reduceCtorEq, Nat.reduceBEq, v34_8]
  refine run_loop ?_
  refine run_drive 40 ?_
  simp only [go_sem, Nat.reduceAdd, Nat.reduceSub, Nat.reduceLeDiff, Nat.reduceMul, Nat.reduceLT, Nat.reduceEqDiff, Int.reduceLT, Int.reduceLE, Int.reduceAdd, Int.reduceSub, Int.reduceMul, Int.reduceToNat, reduceIte, reduceCtorEq, Nat.reduceBEq, v34_9, v34_4, v34_5, v34_7]
  refine run_drw (by kernel_rfl) ?_
  refine drun_drive 20 (p := (_, _)) ?_
  simp only [go_sem, Nat.reduceAdd, Nat.reduceSub, Nat.reduceLeDiff, Nat.reduceMul, Nat.reduceLT, Nat.reduceEqDiff, Int.reduceLT, Int.reduceLE, Int.reduceAdd, Int.reduceSub, Int.reduceMul, Int.reduceToNat, reduceIte, reduceCtorEq, Nat.reduceBEq, v34_6]
  refine drun_call' ?_
  simp only [go_sem, Nat.reduceAdd, Nat.reduceSub, Nat.reduceLeDiff, Nat.reduceMul, Nat.reduceLT, Nat.reduceEqDiff, Int.reduceLT, Int.reduceLE, Int.reduceAdd, Int.reduceSub, Int.reduceMul, Int.reduceToNat, reduceIte, reduceCtorEq, Nat.reduceBEq, calV]
  refine add64 _ _ _ _ (by first | exact Int.natCast_zero.symm | rfl) (by first | decide | assumption) (by assumption) (by assumption) ?_
  intro d1 c1 hd1 hc1 he1
  refine drun_drive 20 (p := (_, _)) ?_
  simp only [go_sem, Nat.reduceAdd, Nat.reduceSub, Nat.reduceLeDiff, Nat.reduceMul, Nat.reduceLT, Nat.reduceEqDiff, Int.reduceLT, Int.reduceLE, Int.reduceAdd, Int.reduceSub, Int.reduceMul, Int.reduceToNat, reduceIte, reduceCtorEq, Nat.reduceBEq]
  refine drun_end ?_
  refine run_drive 40 ?_
  simp only [go_sem, Nat.reduceAdd, Nat.reduceSub, Nat.reduceLeDiff, Nat.reduceMul, Nat.reduceLT, Nat.reduceEqDiff, Int.reduceLT, Int.reduceLE, Int.reduceAdd, Int.reduceSub, Int.reduceMul, Int.reduceToNat, reduceIte, reduceCtorEq, Nat.reduceBEq, v34_8]
  refine run_loop ?_
  refine run_drive 40 ?_
  simp only [go_sem, Nat.reduceAdd, Nat.reduceSub, Nat.reduceLeDiff, Nat.reduceMul, Nat.reduceLT, Nat.reduceEqDiff, Int.reduceLT, Int.reduceLE, Int.reduceAdd, Int.reduceSub, Int.reduceMul, Int.reduceToNat, reduceIte, reduceCtorEq, Nat.reduceBEq, v34_9, v34_4, v34_5, v34_7]
  refine run_drw (by kernel_rfl) ?_
  refine drun_drive 20 (p := (_, _)) ?_
  simp only [go_sem, Nat.reduceAdd, Nat.reduceSub, Nat.reduceLeDiff, Nat.reduceMul, Nat.reduceLT, Nat.reduceEqDiff, Int.reduceLT, Int.reduceLE, Int.reduceAdd, Int.reduceSub, Int.reduceMul, Int.reduceToNat, reduceIte, reduceCtorEq, Nat.reduceBEq, v34_6]
  refine drun_call' ?_
  simp only [go_sem, Nat.reduceAdd, Nat.reduceSub, Nat.reduceLeDiff, Nat.reduceMul, Nat.reduceLT, Nat.reduceEqDiff, Int.reduceLT, Int.reduceLE, Int.reduceAdd, Int.reduceSub, Int.reduceMul, Int.reduceToNat, reduceIte, reduceCtorEq, Nat.reduceBEq, calV]
  refine add64 _ _ _ _ (by first | exact Int.natCast_zero.symm | rfl) (by first | decide | assumption) (by assumption) (by assumption) ?_
  intro d2 c2 hd2 hc2 he2
  refine drun_drive 20 (p := (_, _)) ?_
  simp only [go_sem, Nat.reduceAdd, Nat.reduceSub, Nat.reduceLeDiff, Nat.reduceMul, Nat.reduceLT, Nat.reduceEqDiff, Int.reduceLT, Int.reduceLE, Int.reduceAdd, Int.reduceSub, Int.reduceMul, Int.reduceToNat, reduceIte, reduceCtorEq, Nat.reduceBEq]
  refine drun_end ?_
  refine run_drive 40 ?_
  simp only [go_sem, Nat.reduceAdd, Nat.reduceSub, Nat.reduceLeDiff, Nat.reduceMul, Nat.reduceLT, Nat.reduceEqDiff, Int.reduceLT, Int.reduceLE, Int.reduceAdd, Int.reduceSub, Int.reduceMul, Int.reduceToNat, reduceIte, reduceCtorEq, Nat.reduceBEq, v34_8]
  refine run_loop ?_
  refine run_drive 40 ?_
  simp only [go_sem, Nat.reduceAdd, Nat.reduceSub, Nat.reduceLeDiff, Nat.reduceMul, Nat.reduceLT, Nat.reduceEqDiff, Int.reduceLT, Int.reduceLE, Int.reduceAdd, Int.reduceSub, Int.reduceMul, Int.reduceToNat, reduceIte, reduceCtorEq, Nat.reduceBEq, v34_9, v34_4, v34_5, v34_7]
  refine run_drw (by kernel_rfl) ?_
  refine drun_drive 20 (p := (_, _)) ?_
  simp only [go_sem, Nat.reduceAdd, Nat.reduceSub, Nat.reduceLeDiff, Nat.reduceMul, Nat.reduceLT, Nat.reduceEqDiff, Int.reduceLT, Int.reduceLE, Int.reduceAdd, Int.reduceSub, Int.reduceMul, Int.reduceToNat, reduceIte, reduceCtorEq, Nat.reduceBEq, v34_6]
  refine drun_call' ?_
  simp only [go_sem, Nat.reduceAdd, Nat.reduceSub, Nat.reduceLeDiff, Nat.reduceMul, Nat.reduceLT, Nat.reduceEqDiff, Int.reduceLT, Int.reduceLE, Int.reduceAdd, Int.reduceSub, Int.reduceMul, Int.reduceToNat, reduceIte, reduceCtorEq, Nat.reduceBEq, calV]
  refine add64 _ _ _ _ (by first | exact Int.natCast_zero.symm | rfl) (by first | decide | assumption) (by assumption) (by assumption) ?_
  intro d3 c3 hd3 hc3 he3
  refine drun_drive 20 (p := (_, _)) ?_
  simp only [go_sem, Nat.reduceAdd, Nat.reduceSub, Nat.reduceLeDiff, Nat.reduceMul, Nat.reduceLT, Nat.reduceEqDiff, Int.reduceLT, Int.reduceLE, Int.reduceAdd, Int.reduceSub, Int.reduceMul, Int.reduceToNat, reduceIte, reduceCtorEq, Nat.reduceBEq]
  refine drun_end ?_
  refine run_drive 40 ?_
  simp only [go_sem, Nat.reduceAdd, Nat.reduceSub, Nat.reduceLeDiff, Nat.reduceMul, Nat.reduceLT, Nat.reduceEqDiff, Int.reduceLT, Int.reduceLE, Int.reduceAdd, Int.reduceSub, Int.reduceMul, Int.reduceToNat, reduceIte, reduceCtorEq, Nat.reduceBEq, v34_8]
  refine run_loop ?_
  refine run_drive 40 ?_
  simp only [go_sem, Nat.reduceAdd, Nat.reduceSub, Nat.reduceLeDiff, Nat.reduceMul, Nat.reduceLT, Nat.reduceEqDiff, Int.reduceLT, Int.reduceLE, Int.reduceAdd, Int.reduceSub, Int.reduceMul, Int.reduceToNat, reduceIte, reduceCtorEq, Nat.reduceBEq, v34_9, v34_4, v34_11]
  refine run_ret_drop Tryd.func34 res34 [] (.tup [lw (d0 + 18446744073709551616 * d1 + 340282366920938463463374607431768211456 * d2 + 6277101735386680763835789423207666416102355444464034512896 * d3), u c3]) [] rfl (by simp) trivial (by simp [uniq]) ?_ (hQ _ _ ?_ hc3 ?_)
  · rw [lw_of hd0 hd1 hd2 hd3]
    simp only [go_sem, Nat.reduceAdd, Nat.reduceSub, Nat.reduceLeDiff, Nat.reduceMul, Nat.reduceLT, Nat.reduceEqDiff, Int.reduceLT, Int.reduceLE, Int.reduceAdd, Int.reduceSub, Int.reduceMul, Int.reduceToNat, reduceIte, reduceCtorEq, Nat.reduceBEq, r34, ren, rens, u]
  · omega
  · rw [eA hA, eB hB]; omega

/-- a, where m is all ones; b, where it is 0. -/
theorem choose (m : Bool) (A B : Nat) (mi : Int) (hm : mi = (if m = true then 18446744073709551615 else 0 : Nat)) (Q : V → Heap → Prop) (hQ : Q (if m = true then lw A else lw B) []) : VCall Tryd.prog G 36 [.int .u64 mi, lw A, lw B] [] Q := by
  subst hm
  refine vcall_body Tryd.func36 nm36 code36 nt36 ?_
  obtain ⟨a0, a1, a2, a3, ha0, ha1, ha2, ha3, ea, eA⟩ := limbs A
  obtain ⟨b0, b1, b2, b3, hb0, hb1, hb2, hb3, eb, eB⟩ := limbs B
  rw [ea, eb]
  generalize hk : (if m = true then 18446744073709551615 else 0 : Nat) = k
  refine run_drive 40 ?_
  simp only [go_sem, Nat.reduceAdd, Nat.reduceSub, Nat.reduceLeDiff, Nat.reduceMul, Nat.reduceLT, Nat.reduceEqDiff, Int.reduceLT, Int.reduceLE, Int.reduceAdd, Int.reduceSub, Int.reduceMul, Int.reduceToNat, reduceIte, reduceCtorEq, Nat.reduceBEq, v36, v36_0, v36_1, v36_8]
  refine run_loop ?_
  refine run_drive 40 ?_
  simp only [go_sem, Nat.reduceAdd, Nat.reduceSub, Nat.reduceLeDiff, Nat.reduceMul, Nat.reduceLT, Nat.reduceEqDiff, Int.reduceLT, Int.reduceLE, Int.reduceAdd, Int.reduceSub, Int.reduceMul, Int.reduceToNat, reduceIte, reduceCtorEq, Nat.reduceBEq, v36_7, v36_2, v36_3, v36_5]
  refine run_drw (by kernel_rfl) ?_
  refine drun_drive 20 (p := (_, _)) ?_
  simp only [go_sem, Nat.reduceAdd, Nat.reduceSub, Nat.reduceLeDiff, Nat.reduceMul, Nat.reduceLT, Nat.reduceEqDiff, Int.reduceLT, Int.reduceLE, Int.reduceAdd, Int.reduceSub, Int.reduceMul, Int.reduceToNat, reduceIte, reduceCtorEq, Nat.reduceBEq, v36_4]
  refine drun_end ?_
  refine run_drive 40 ?_
  simp only [go_sem, Nat.reduceAdd, Nat.reduceSub, Nat.reduceLeDiff, Nat.reduceMul, Nat.reduceLT, Nat.reduceEqDiff, Int.reduceLT, Int.reduceLE, Int.reduceAdd, Int.reduceSub, Int.reduceMul, Int.reduceToNat, reduceIte, reduceCtorEq, Nat.reduceBEq, v36_6]
  refine run_loop ?_
  refine run_drive 40 ?_
  simp only [go_sem, Nat.reduceAdd, Nat.reduceSub, Nat.reduceLeDiff, Nat.reduceMul, Nat.reduceLT, Nat.reduceEqDiff, Int.reduceLT, Int.reduceLE, Int.reduceAdd, Int.reduceSub, Int.reduceMul, Int.reduceToNat, reduceIte, reduceCtorEq, Nat.reduceBEq, v36_7, v36_2, v36_3, v36_5]
  refine run_drw (by kernel_rfl) ?_
  refine drun_drive 20 (p := (_, _)) ?_
  simp only [go_sem, Nat.reduceAdd, Nat.reduceSub, Nat.reduceLeDiff, Nat.reduceMul, Nat.reduceLT, Nat.reduceEqDiff, Int.reduceLT, Int.reduceLE, Int.reduceAdd, Int.reduceSub, Int.reduceMul, Int.reduceToNat, reduceIte, reduceCtorEq, Nat.reduceBEq, v36_4]
  refine drun_end ?_
  refine run_drive 40 ?_
  simp only [go_sem, Nat.reduceAdd, Nat.reduceSub, Nat.reduceLeDiff, Nat.reduceMul, Nat.reduceLT, Nat.reduceEqDiff, Int.reduceLT, Int.reduceLE, Int.reduceAdd, Int.reduceSub, Int.reduceMul, Int.reduceToNat, reduceIte, reduceCtorEq, Nat.reduceBEq, v36_6]
  refine run_loop ?_
  refine run_drive 40 ?_
  simp only [go_sem, Nat.reduceAdd, Nat.reduceSub, Nat.reduceLeDiff, Nat.reduceMul, Nat.reduceLT, Nat.reduceEqDiff, Int.reduceLT, Int.reduceLE, Int.reduceAdd, Int.reduceSub, Int.reduceMul, Int.reduceToNat, reduceIte, reduceCtorEq, Nat.reduceBEq, v36_7, v36_2, v36_3, v36_5]
  refine run_drw (by kernel_rfl) ?_
  refine drun_drive 20 (p := (_, _)) ?_
  simp only [go_sem, Nat.reduceAdd, Nat.reduceSub, Nat.reduceLeDiff, Nat.reduceMul, Nat.reduceLT, Nat.reduceEqDiff, Int.reduceLT, Int.reduceLE, Int.reduceAdd, Int.reduceSub, Int.reduceMul, Int.reduceToNat, reduceIte, reduceCtorEq, Nat.reduceBEq, v36_4]
  refine drun_end ?_
  refine run_drive 40 ?_
  simp only [go_sem, Nat.reduceAdd, Nat.reduceSub, Nat.reduceLeDiff, Nat.reduceMul, Nat.reduceLT, Nat.reduceEqDiff, Int.reduceLT, Int.reduceLE, Int.reduceAdd, Int.reduceSub, Int.reduceMul, Int.reduceToNat, reduceIte, reduceCtorEq, Nat.reduceBEq, v36_6]
  refine run_loop ?_
  refine run_drive 40 ?_
  simp only [go_sem, Nat.reduceAdd, Nat.reduceSub, Nat.reduceLeDiff, Nat.reduceMul, Nat.reduceLT, Nat.reduceEqDiff, Int.reduceLT, Int.reduceLE, Int.reduceAdd, Int.reduceSub, Int.reduceMul, Int.reduceToNat, reduceIte, reduceCtorEq, Nat.reduceBEq, v36_7, v36_2, v36_3, v36_5]
  refine run_drw (by kernel_rfl) ?_
  refine drun_drive 20 (p := (_, _)) ?_
  simp only [go_sem, Nat.reduceAdd, Nat.reduceSub, Nat.reduceLeDiff, Nat.reduceMul, Nat.reduceLT, Nat.reduceEqDiff, Int.reduceLT, Int.reduceLE, Int.reduceAdd, Int.reduceSub, Int.reduceMul, Int.reduceToNat, reduceIte, reduceCtorEq, Nat.reduceBEq, v36_4]
  refine drun_end ?_
  refine run_drive 40 ?_
  simp only [go_sem, Nat.reduceAdd, Nat.reduceSub, Nat.reduceLeDiff, Nat.reduceMul, Nat.reduceLT, Nat.reduceEqDiff, Int.reduceLT, Int.reduceLE, Int.reduceAdd, Int.reduceSub, Int.reduceMul, Int.reduceToNat, reduceIte, reduceCtorEq, Nat.reduceBEq, v36_6]
  refine run_loop ?_
  refine run_drive 40 ?_
  simp only [go_sem, Nat.reduceAdd, Nat.reduceSub, Nat.reduceLeDiff, Nat.reduceMul, Nat.reduceLT, Nat.reduceEqDiff, Int.reduceLT, Int.reduceLE, Int.reduceAdd, Int.reduceSub, Int.reduceMul, Int.reduceToNat, reduceIte, reduceCtorEq, Nat.reduceBEq, v36_7, v36_2, v36_9]
  have key : ∀ a b : Nat, a < 18446744073709551616 → b < 18446744073709551616 → o64 (a64 a k) (n64 b k) = if m = true then a else b := by
    intro a b ha hb
    subst hk
    unfold o64 a64 n64
    rw [Nat.mod_eq_of_lt ha, Nat.mod_eq_of_lt hb]
    cases m
    · simp only [Bool.false_eq_true, if_false]
      rw [Nat.zero_mod, Nat.and_zero, Nat.zero_mod, Nat.zero_or, Nat.sub_zero, show (18446744073709551615 : Nat) = 2 ^ 64 - 1 from rfl, Nat.and_two_pow_sub_one_eq_mod]
      omega
    · simp only [if_true]
      rw [show 18446744073709551615 - 18446744073709551615 % 18446744073709551616 = 0 from rfl, Nat.and_zero, Nat.zero_mod, Nat.or_zero, show 18446744073709551615 % 18446744073709551616 = 2 ^ 64 - 1 from rfl, Nat.and_two_pow_sub_one_eq_mod]
      omega
  refine run_ret_drop Tryd.func36 res36 [] (if m = true then lw A else lw B) [] rfl (by simp) trivial (by simp [uniq]) ?_ hQ
  simp only [go_sem, Nat.reduceAdd, Nat.reduceSub, Nat.reduceLeDiff, Nat.reduceMul, Nat.reduceLT, Nat.reduceEqDiff, Int.reduceLT, Int.reduceLE, Int.reduceAdd, Int.reduceSub, Int.reduceMul, Int.reduceToNat, reduceIte, reduceCtorEq, Nat.reduceBEq, r36, key _ _ ha0 hb0, key _ _ ha1 hb1, key _ _ ha2 hb2, key _ _ ha3 hb3]
  cases m <;> simp only [Bool.false_eq_true, if_false, if_true, ea, eb, ren, rens]
end Go.Vs.Tryd
namespace Go.Vs.Tryd
open Go.Proofs
variable {G : Nat → List V}
set_option linter.unusedSimpArgs false
attribute [local go_sem] drive stepV exo expo evs fillV isNil nilKind eqV eqL optA optM sliceAtV ev kn V.known V.one ldc stc splice cellsOf asK asN asB asS asG asT appV srcV lenV setd wantV exitV rvs rv one List.length_cons List.length_nil List.cons_append List.nil_append List.append_nil List.replicate List.getD_cons_zero List.getD_cons_succ List.set_cons_zero List.set_cons_succ List.getElem?_cons_zero List.getElem?_cons_succ List.getElem?_nil List.take_succ_cons List.take_zero List.take_nil List.drop_succ_cons List.drop_zero List.drop_nil List.all_cons List.all_nil List.any_cons List.any_nil Bool.and_true Bool.true_and Bool.and_self Option.map_some Option.map_none Option.bind_some Option.some.injEq Nat.add_zero Nat.zero_add Int.toNat_zero Int.toNat_one Int.zero_add Int.add_zero if_true if_false ite_true ite_false and_true true_and and_self ne_eq not_false_eq_true not_true_eq_false decide_true decide_false Bool.false_eq_true Bool.not_true Bool.not_false beq_self_eq_true BEq.rfl Bool.not_eq_true Nat.le_refl Int.le_refl Nat.zero_le List.foldl List.map_cons List.map_nil Prod.mk.injEq Int.cast_ofNat_Int Int.zero_le_ofNat b_add_cc b_add_cl b_add_lc b_mul_cc b_mul_cl b_mul_lc b_sub_cc b_sub_cl b_sub_lc b_and_cc b_and_cl b_and_lc b_or_cc b_or_cl b_or_lc b_xor_cc b_xor_cl b_xor_lc b_andNot_cc b_andNot_cl b_andNot_lc b_shr_cc b_shr_cl b_shr_lc b_shl_cc b_shl_cl b_shl_lc b_lss b_leq b_gtr b_geq b_add_i b_sub_i b_mul_i beq_cc beq_cl beq_lc beq_ll b_quo_i b_rem_i neg_u64 wrap_i64 driveD stepD idsAt idOf maskH_nil restore_nil restore_mask List.filterMap_nil List.filterMap_cons VOp.looks VOp.makes exA

def ell : Nat := 7237005577332262213973186563042994240857116359379907606001950938285454250989
/-- The table of the program's scalars, as cells. -/
def tbl : List V := [.int .u64 (nl 6346243789798364141), .int .u64 (nl 1503914060200516822), .int .u64 (nl 0), .int .u64 (nl 1152921504606846976),
  .int .u64 (nl 15486807595281847581), .int .u64 (nl 14334777244411350896), .int .u64 (nl 18446744073709551614), .int .u64 (nl 1152921504606846975),
  .int .u64 (nl 11819153939886771969), .int .u64 (nl 14991950615390032711), .int .u64 (nl 14910419812499177061), .int .u64 (nl 259310039853996605),
  .int .u64 (nl 6346243789798364139), .int .u64 (nl 1503914060200516822), .int .u64 (nl 0), .int .u64 (nl 1152921504606846976)]
theorem lw_ell : V.agg [.int .u64 (nl 6346243789798364141), .int .u64 (nl 1503914060200516822), .int .u64 (nl 0), .int .u64 (nl 1152921504606846976)] = lw ell := rfl

theorem choose' (m : Bool) (A B : Nat) (mi : Int) (hm : mi = (if m = true then 18446744073709551615 else 0 : Nat)) {h : Heap} {R : V → Heap → Prop} (hQ : R (if m = true then lw A else lw B) h) : VCall Tryd.prog G 36 [.int .u64 mi, lw A, lw B] h R := by
  refine vcall_plain (Q := fun v => v = if m = true then lw A else lw B) (choose m A B mi hm _ ⟨rfl, rfl⟩) (fun g => by simp only [rens, ren, lw, lc, u]) ?_ ?_
  · rintro v g rfl; cases m <;> simp only [Bool.false_eq_true, if_false, if_true, lw_plain]
  · rintro v rfl; exact hQ
theorem plus' (A B : Nat) (hA : A < 115792089237316195423570985008687907853269984665640564039457584007913129639936) (hB : B < 115792089237316195423570985008687907853269984665640564039457584007913129639936) {h : Heap} {R : V → Heap → Prop}
    (hQ : ∀ D b : Nat, D < 115792089237316195423570985008687907853269984665640564039457584007913129639936 → b ≤ 1 → A + B = 115792089237316195423570985008687907853269984665640564039457584007913129639936 * b + D → R (.tup [lw D, u b]) h) : VCall Tryd.prog G 34 [lw A, lw B] h R := by
  refine vcall_plain (Q := fun v => ∃ D b : Nat, D < 115792089237316195423570985008687907853269984665640564039457584007913129639936 ∧ b ≤ 1 ∧ A + B = 115792089237316195423570985008687907853269984665640564039457584007913129639936 * b + D ∧ v = .tup [lw D, u b]) (plus A B hA hB _ fun D b h1 h2 h3 => ⟨⟨D, b, h1, h2, h3, rfl⟩, rfl⟩) (fun g => by simp only [rens, ren, lw, lc, u]) ?_ ?_
  · rintro v g ⟨hi, lo, _, _, _, rfl⟩; simp only [rens, ren, lw, lc, u]
  · rintro v ⟨hi, lo, h1, h2, h3, rfl⟩; exact hQ hi lo h1 h2 h3

theorem mask_of {b : Nat} (hb : b ≤ 1) : ((s64 0 b : Nat) : Int) = ((if decide (b = 1) = true then 18446744073709551615 else 0 : Nat) : Int) := by
  have : b = 0 ∨ b = 1 := by omega
  rcases this with rfl | rfl <;> rfl

set_option maxRecDepth 100000
set_option maxHeartbeats 1000000
theorem lower (hG : G 0 = tbl) (A : Nat) (hA : A < 115792089237316195423570985008687907853269984665640564039457584007913129639936) (Q : V → Heap → Prop) (hQ : Q (lw (if ell ≤ A then A - ell else A)) []) : VCall Tryd.prog G 35 [lw A] [] Q := by
  refine vcall_body Tryd.func35 nm35 code35 nt35 ?_
  obtain ⟨a0, a1, a2, a3, ha0, ha1, ha2, ha3, ea, eA⟩ := limbs A
  rw [ea]
  refine run_drive 40 ?_
  simp only [go_sem, Nat.reduceAdd, Nat.reduceSub, Nat.reduceLeDiff, Nat.reduceMul, Nat.reduceLT, Nat.reduceEqDiff, Int.reduceLT, Int.reduceLE, Int.reduceAdd, Int.reduceSub, Int.reduceMul, Int.reduceToNat, reduceIte, reduceCtorEq, Nat.reduceBEq, v35_0, v35_1, v35_2, v35, hG, tbl]
  refine run_call' rfl ?_
  simp only [go_sem, Nat.reduceAdd, Nat.reduceSub, Nat.reduceLeDiff, Nat.reduceMul, Nat.reduceLT, Nat.reduceEqDiff, Int.reduceLT, Int.reduceLE, Int.reduceAdd, Int.reduceSub, Int.reduceMul, Int.reduceToNat, reduceIte, reduceCtorEq, Nat.reduceBEq, calV, lw_ell]
  rw [← ea]
  refine minus' A ell hA (by decide) ?_
  intro D b hD hb he
  obtain ⟨d0, d1, d2, d3, hd0, hd1, hd2, hd3, ed, eD⟩ := limbs D
  rw [ed, ea]
  simp only [u]
  refine run_drive 40 ?_
  simp only [go_sem, Nat.reduceAdd, Nat.reduceSub, Nat.reduceLeDiff, Nat.reduceMul, Nat.reduceLT, Nat.reduceEqDiff, Int.reduceLT, Int.reduceLE, Int.reduceAdd, Int.reduceSub, Int.reduceMul, Int.reduceToNat, reduceIte, reduceCtorEq, Nat.reduceBEq]
  refine run_call' rfl ?_
  simp only [go_sem, Nat.reduceAdd, Nat.reduceSub, Nat.reduceLeDiff, Nat.reduceMul, Nat.reduceLT, Nat.reduceEqDiff, Int.reduceLT, Int.reduceLE, Int.reduceAdd, Int.reduceSub, Int.reduceMul, Int.reduceToNat, reduceIte, reduceCtorEq, Nat.reduceBEq, calV]
  rw [← ed, ← ea]
  refine choose' (decide (b = 1)) A D _ (mask_of hb) ?_
  have hR : (if decide (b = 1) = true then lw A else lw D) = lw (if ell ≤ A then A - ell else A) := by
    have hell : ell < 115792089237316195423570985008687907853269984665640564039457584007913129639936 := by decide
    by_cases h1 : b = 1
    · subst h1
      rw [if_pos (by decide), if_neg (by omega)]
    · rw [if_neg (by simpa using h1), if_pos (by omega)]
      have h0 : b = 0 := by omega
      subst h0
      exact congrArg lw (by omega)
  rw [hR]
  obtain ⟨r0, r1, r2, r3, hr0, hr1, hr2, hr3, er, eR⟩ := limbs (if ell ≤ A then A - ell else A)
  rw [er, ea, ed]
  refine run_drive 40 ?_
  simp only [go_sem, Nat.reduceAdd, Nat.reduceSub, Nat.reduceLeDiff, Nat.reduceMul, Nat.reduceLT, Nat.reduceEqDiff, Int.reduceLT, Int.reduceLE, Int.reduceAdd, Int.reduceSub, Int.reduceMul, Int.reduceToNat, reduceIte, reduceCtorEq, Nat.reduceBEq]
  refine run_ret_drop Tryd.func35 res35 [] (lw (if ell ≤ A then A - ell else A)) [] rfl (by simp) trivial (by simp [uniq]) ?_ hQ
  simp only [go_sem, Nat.reduceAdd, Nat.reduceSub, Nat.reduceLeDiff, Nat.reduceMul, Nat.reduceLT, Nat.reduceEqDiff, Int.reduceLT, Int.reduceLE, Int.reduceAdd, Int.reduceSub, Int.reduceMul, Int.reduceToNat, reduceIte, reduceCtorEq, Nat.reduceBEq, r35, er, ren, rens]
end Go.Vs.Tryd
