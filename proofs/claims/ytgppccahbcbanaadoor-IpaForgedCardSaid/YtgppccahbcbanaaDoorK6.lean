/- Text 6 of 11 of this claim: a machine of plain values beside the model, what the functions of the program and of the reference answer over it, and last the row and its card. -/
import Derived.Test.YtgppccahbcbanaaDoorK5
import Derived.WalkKit
import Derived.Defers
import Derived.Recover
import Derived.Test.YtgppccahbcbanaaDoorK4
set_option linter.unusedVariables false
set_option linter.unusedSimpArgs false
namespace Go.Vs.Tryd
open Go.Proofs Go.RowKit
set_option maxRecDepth 100000
theorem sz16 (args : Array Value) : 16 ≤ (args ++ Array.replicate (16 - args.size) undef).size := by simp; omega
theorem dnop36 : DNop Tryd.prog 36 := by
  intro args w
  constructor
  · have h1 : Tryd.f36.name ≠ "runtime.NumGoroutine" := by have := nm36; simpa using this
    obtain ⟨c, hc, _⟩ := Option.bind_eq_some_iff.1 code36
    simp [callFunc, Tryd.func36, h1, hc]
  · suffices h : CallsD Tryd.prog 36 args .returning w fun e u' w' => (∃ v, e = .returned v) ∧ u' = .returning ∧ w' = w from h
    refine callsD_of_wpS Tryd.func36 rfl fun c₀ cs hu => ?_
    rw [Tryd.ntmps36]
    have hT := sz16 args
    generalize args ++ Array.replicate (16 - args.size) undef = T at hT ⊢
    apply wpS_seq
    apply wpS_region
    simp [wpOpsS, go_sem, recoverD, hu, Exit.thenS]
    have hb : ∀ w : World, (binOp BinOp.neq 20 .nilIface .nilIface).run Tryd.prog w = .ok (.bool false) w := fun _ => by kernel_rfl
    have hg : ∀ w : World, (eqGuard BinOp.neq 20 (Operand.tmp 6) (Operand.const Value.nilIface) Value.nilIface Value.nilIface).run Tryd.prog w = .ok () w := fun _ => by kernel_rfl
    have h2 : 2 < T.size := by omega
    have h5 : 5 < T.size := by omega
    have h6 : 6 < T.size := by omega
    have h7 : 7 < T.size := by omega
    apply wpS_seq
    apply wpS_region
    simp [wpOpsS, go_sem, recoverD, hu, Exit.thenS, h2, h5, h6, h7, hb, hg]
    refine wpS_cond (t := false) (by simp [Act.eval, h2, h6, h7]) ?_
    simp only [Bool.false_eq_true, if_false]
    refine wpS_of_wp (wp_skip ?_)
    cases c₀
    simp_all [bodyPostS, results, Tryd.results36]
end Go.Vs.Tryd
namespace Go.Vs
theorem a64_mask (x k : Nat) (hk : k ≤ 63) (hx : x < 18446744073709551616) (m : Nat) (hm : m = 2 ^ k - 1) : a64 x m = x % 2 ^ k := by
  subst hm
  have h1 : 2 ^ k ≤ 2 ^ 63 := Nat.pow_le_pow_right (by decide) hk
  have h2 : 0 < 2 ^ k := Nat.two_pow_pos k
  unfold a64
  rw [Nat.mod_eq_of_lt hx, Nat.mod_eq_of_lt (a := 2 ^ k - 1) (by omega), Nat.and_two_pow_sub_one_eq_mod]
theorem mul64_law (x y : Nat) (hx : x < 18446744073709551616) (hy : y < 18446744073709551616) :
    x * y = 18446744073709551616 * w64 (w64 (w64 (r64 x 32 * r64 y 32) + r64 (w64 (w64 (r64 x 32 * a64 y 4294967295) + r64 (w64 (a64 x 4294967295 * a64 y 4294967295)) 32)) 32) + r64 (w64 (a64 (w64 (w64 (r64 x 32 * a64 y 4294967295) + r64 (w64 (a64 x 4294967295 * a64 y 4294967295)) 32)) 4294967295 + w64 (a64 x 4294967295 * r64 y 32))) 32) + w64 (x * y) := by
  have ex : x = x % 4294967296 + 4294967296 * (x / 4294967296) := (Nat.mod_add_div _ _).symm
  have ey : y = y % 4294967296 + 4294967296 * (y / 4294967296) := (Nat.mod_add_div _ _).symm
  have r1 : r64 x 32 = x / 4294967296 := rfl
  have r2 : r64 y 32 = y / 4294967296 := rfl
  have m1 : a64 x 4294967295 = x % 4294967296 := a64_mask x 32 (by decide) hx _ rfl
  have m2 : a64 y 4294967295 = y % 4294967296 := a64_mask y 32 (by decide) hy _ rfl
  have m3 : ∀ t, a64 (w64 t) 4294967295 = w64 t % 4294967296 := fun t => a64_mask _ 32 (by decide) (Nat.mod_lt _ (by decide)) _ rfl
  have hx0 : x % 4294967296 < 4294967296 := Nat.mod_lt _ (by decide)
  have hy0 : y % 4294967296 < 4294967296 := Nat.mod_lt _ (by decide)
  have hx1 : x / 4294967296 < 4294967296 := by omega
  have hy1 : y / 4294967296 < 4294967296 := by omega
  rw [r1, r2, m1, m2, m3]
  generalize x % 4294967296 = x0 at *
  generalize y % 4294967296 = y0 at *
  generalize x / 4294967296 = x1 at *
  generalize y / 4294967296 = y1 at *
  have bound : ∀ a b : Nat, a < 4294967296 → b < 4294967296 → a * b ≤ 18446744065119617025 := fun a b ha hb => by
    have := Nat.mul_le_mul (Nat.le_of_lt_succ ha) (Nat.le_of_lt_succ hb)
    exact this
  have b00 := bound x0 y0 hx0 hy0
  have b01 := bound x0 y1 hx0 hy1
  have b10 := bound x1 y0 hx1 hy0
  have b11 := bound x1 y1 hx1 hy1
  have hp : x * y = x0 * y0 + 4294967296 * (x0 * y1) + 4294967296 * (x1 * y0) + 18446744073709551616 * (x1 * y1) := by
    rw [ex, ey]; grind
  rw [hp]
  generalize x0 * y0 = p00 at *
  generalize x0 * y1 = p01 at *
  generalize x1 * y0 = p10 at *
  generalize x1 * y1 = p11 at *
  have rr : ∀ t, r64 t 32 = t / 4294967296 := fun _ => rfl
  simp only [rr, w64]
  omega
end Go.Vs
namespace Go.Vs.Tryd
open Go.Proofs
variable {G : Nat → List V}
set_option linter.unusedSimpArgs false
attribute [local go_sem_proc] Nat.reduceAdd Nat.reduceSub Nat.reduceLeDiff Nat.reduceMul Nat.reduceLT Nat.reduceEqDiff Int.reduceLT Int.reduceLE Int.reduceAdd Int.reduceSub Int.reduceMul Int.reduceToNat reduceIte reduceCtorEq Nat.reduceBEq
section
attribute [local go_sem] Option.isSome_some Option.isSome_none Kind.m Kind.w Kind.g look_ro look_rw look_grow lenO drive stepV exo expo evs fillV isNil nilKind eqV eqL optA optM sliceAtV ev kn V.known V.one ldc stc splice cellsOf asK asN asB asS asG asT appV srcV lenV setd wantV exitV rvs rv one List.length_cons List.length_nil List.cons_append List.nil_append List.append_nil List.replicate List.getD_cons_zero List.getD_cons_succ List.set_cons_zero List.set_cons_succ List.getElem?_cons_zero List.getElem?_cons_succ List.getElem?_nil List.take_succ_cons List.take_zero List.take_nil List.drop_succ_cons List.drop_zero List.drop_nil List.all_cons List.all_nil List.any_cons List.any_nil Bool.and_true Bool.true_and Bool.and_self Option.map_some Option.map_none Option.bind_some Option.some.injEq Nat.add_zero Nat.zero_add Int.toNat_zero Int.toNat_one Int.zero_add Int.add_zero if_true if_false ite_true ite_false and_true true_and and_self ne_eq not_false_eq_true not_true_eq_false decide_true decide_false Bool.false_eq_true Bool.not_true Bool.not_false beq_self_eq_true BEq.rfl Bool.not_eq_true Nat.le_refl Int.le_refl Nat.zero_le List.foldl List.map_cons List.map_nil Prod.mk.injEq Int.cast_ofNat_Int Int.zero_le_ofNat b_add_cc b_add_cl b_add_lc b_mul_cc b_mul_cl b_mul_lc b_sub_cc b_sub_cl b_sub_lc b_and_cc b_and_cl b_and_lc b_or_cc b_or_cl b_or_lc b_xor_cc b_xor_cl b_xor_lc b_andNot_cc b_andNot_cl b_andNot_lc b_shr_cc b_shr_cl b_shr_lc b_shl_cc b_shl_cl b_shl_lc b_lss b_leq b_gtr b_geq b_add_i b_sub_i b_mul_i beq_cc beq_cl beq_lc beq_ll b_quo_i b_rem_i neg_u64 wrap_i64 driveD stepD idsAt idOf maskH_nil restore_nil restore_mask List.filterMap_nil List.filterMap_cons VOp.looks VOp.makes exA
def u (n : Nat) : V := .int .u64 (n : Int)
def lc (n : Nat) : List V := [u (n % 18446744073709551616), u (n / 18446744073709551616 % 18446744073709551616), u (n / 340282366920938463463374607431768211456 % 18446744073709551616), u (n / 6277101735386680763835789423207666416102355444464034512896 % 18446744073709551616)]
def lw (n : Nat) : V := .agg (lc n)
noncomputable def sub64E : Array Value → Sem Value := (Extern.find Tryd.f43).getD fun _ => Pure.pure undef
theorem sub64E_run (P : Program) (x y b : Nat) (hb : b ≤ 1) (w : World) : (sub64E #[.int .u64 x, .int .u64 y, .int .u64 b]).run P w =
      .ok (.tuple #[.int .u64 (((x + 18446744073709551616 - y - b) % 18446744073709551616 : Nat) : Int), .int .u64 ((if x < y + b then 1 else 0 : Nat) : Int)]) w := by
  have : b = 0 ∨ b = 1 := by omega
  rcases this with rfl | rfl <;> rfl
theorem sub64 (x y c : Nat) (ci : Int) (hci : ci = (c : Int)) (hc : c ≤ 1) (hx : x < 18446744073709551616) (hy : y < 18446744073709551616) {h : Heap} {R : V → Heap → Prop} (hq : ∀ d b : Nat, d < 18446744073709551616 → b ≤ 1 → x + 18446744073709551616 * b = y + c + d → R (.tup [.int .u64 (d : Int), .int .u64 (b : Int)]) h) : VCall Tryd.prog G 43 [.int .u64 (x : Int), .int .u64 (y : Int), .int .u64 ci] h R := by
  subst hci
  refine vcall_plain (vcall_value (v := .tup [u ((x + 18446744073709551616 - y - c) % 18446744073709551616), u (if x < y + c then 1 else 0)]) [.int .u64 x, .int .u64 y, .int .u64 c] (.tuple #[.int .u64 ((x + 18446744073709551616 - y - c) % 18446744073709551616 : Nat), .int .u64 ((if x < y + c then 1 else 0 : Nat) : Int)]) (by simp only [concs, conc, Option.bind_some, Option.map_some]) (by simp only [u, concs, conc, Option.bind_some, Option.map_some]) fun w => ?_) (fun g => by simp only [rens, ren]) (fun v g hv => ?_) fun v hv => ?_
  · rw [run_callFunc_extern Tryd.func43 (by kernel_rfl) (by kernel_rfl) (by kernel_rfl) (e := sub64E) (by kernel_rfl)]
    rw [show (([.int .u64 x, .int .u64 y, .int .u64 c] : List Value).toArray) = #[.int .u64 (x : Int), .int .u64 (y : Int), .int .u64 (c : Int)] from rfl, sub64E_run _ x y c hc]
    rfl
  · subst hv; simp only [u, rens, ren]
  · subst hv
    refine hq _ _ (Nat.mod_lt _ (by decide)) (by split <;> omega) ?_
    split <;> omega
theorem lw_of {d0 d1 d2 d3 : Nat} (h0 : d0 < 18446744073709551616) (h1 : d1 < 18446744073709551616) (h2 : d2 < 18446744073709551616) (h3 : d3 < 18446744073709551616) :
    lw (d0 + 18446744073709551616 * d1 + 340282366920938463463374607431768211456 * d2 + 6277101735386680763835789423207666416102355444464034512896 * d3) = .agg [.int .u64 (d0 : Int), .int .u64 (d1 : Int), .int .u64 (d2 : Int), .int .u64 (d3 : Int)] := by
  have e0 : (d0 + 18446744073709551616 * d1 + 340282366920938463463374607431768211456 * d2 + 6277101735386680763835789423207666416102355444464034512896 * d3) % 18446744073709551616 = d0 := by omega
  have e1 : (d0 + 18446744073709551616 * d1 + 340282366920938463463374607431768211456 * d2 + 6277101735386680763835789423207666416102355444464034512896 * d3) / 18446744073709551616 % 18446744073709551616 = d1 := by omega
  have e2 : (d0 + 18446744073709551616 * d1 + 340282366920938463463374607431768211456 * d2 + 6277101735386680763835789423207666416102355444464034512896 * d3) / 340282366920938463463374607431768211456 % 18446744073709551616 = d2 := by omega
  have e3 : (d0 + 18446744073709551616 * d1 + 340282366920938463463374607431768211456 * d2 + 6277101735386680763835789423207666416102355444464034512896 * d3) / 6277101735386680763835789423207666416102355444464034512896 % 18446744073709551616 = d3 := by omega
  unfold lw lc u
  rw [e0, e1, e2, e3]
theorem limbs (A : Nat) : ∃ a0 a1 a2 a3 : Nat, a0 < 18446744073709551616 ∧ a1 < 18446744073709551616 ∧ a2 < 18446744073709551616 ∧ a3 < 18446744073709551616 ∧ lw A = .agg [.int .u64 (a0 : Int), .int .u64 (a1 : Int), .int .u64 (a2 : Int), .int .u64 (a3 : Int)] ∧
    (A < 115792089237316195423570985008687907853269984665640564039457584007913129639936 → A = a0 + 18446744073709551616 * a1 + 340282366920938463463374607431768211456 * a2 + 6277101735386680763835789423207666416102355444464034512896 * a3) := by
  refine ⟨_, _, _, _, Nat.mod_lt _ (by decide), Nat.mod_lt _ (by decide), Nat.mod_lt _ (by decide), Nat.mod_lt _ (by decide), rfl, fun h => ?_⟩
  omega
set_option maxHeartbeats 4000000
theorem minus (A B : Nat) (hA : A < 115792089237316195423570985008687907853269984665640564039457584007913129639936) (hB : B < 115792089237316195423570985008687907853269984665640564039457584007913129639936) (Q : V → Heap → Prop)
    (hQ : ∀ D b : Nat, D < 115792089237316195423570985008687907853269984665640564039457584007913129639936 → b ≤ 1 → A + 115792089237316195423570985008687907853269984665640564039457584007913129639936 * b = B + D → Q (.tup [lw D, u b]) []) : VCall Tryd.prog G 32 [lw A, lw B] [] Q := by
  refine vcall_body Tryd.func32 nm32 code32 nt32 ?_
  obtain ⟨a0, a1, a2, a3, ha0, ha1, ha2, ha3, ea, eA⟩ := limbs A
  obtain ⟨b0, b1, b2, b3, hb0, hb1, hb2, hb3, eb, eB⟩ := limbs B
  rw [ea, eb]
  refine run_drive 40 ?_
  simp only [go_sem, v32, v32_0, v32_1, v32_2, v32_3, v32_10]
  refine run_loop ?_
  refine run_drive 40 ?_
  simp only [go_sem, v32_9, v32_4, v32_5, v32_7]
  refine run_drw (by kernel_rfl) ?_
  refine drun_drive 20 (p := (_, _)) ?_
  simp only [go_sem, v32_6]
  refine drun_call' ?_
  simp only [go_sem, calV]
  refine sub64 _ _ _ _ (by first | exact Int.natCast_zero.symm | rfl) (by first | decide | assumption) (by assumption) (by assumption) ?_
  intro d0 c0 hd0 hc0 he0
  refine drun_drive 20 (p := (_, _)) ?_
  simp only [go_sem]
  refine drun_end ?_
  refine run_drive 40 ?_
  simp only [go_sem, v32_8]
  refine run_loop ?_
  refine run_drive 40 ?_
  simp only [go_sem, v32_9, v32_4, v32_5, v32_7]
  refine run_drw (by kernel_rfl) ?_
  refine drun_drive 20 (p := (_, _)) ?_
  simp only [go_sem, v32_6]
  refine drun_call' ?_
  simp only [go_sem, calV]
  refine sub64 _ _ _ _ (by first | exact Int.natCast_zero.symm | rfl) (by first | decide | assumption) (by assumption) (by assumption) ?_
  intro d1 c1 hd1 hc1 he1
  refine drun_drive 20 (p := (_, _)) ?_
  simp only [go_sem]
  refine drun_end ?_
  refine run_drive 40 ?_
  simp only [go_sem, v32_8]
  refine run_loop ?_
  refine run_drive 40 ?_
  simp only [go_sem, v32_9, v32_4, v32_5, v32_7]
  refine run_drw (by kernel_rfl) ?_
  refine drun_drive 20 (p := (_, _)) ?_
  simp only [go_sem, v32_6]
  refine drun_call' ?_
  simp only [go_sem, calV]
  refine sub64 _ _ _ _ (by first | exact Int.natCast_zero.symm | rfl) (by first | decide | assumption) (by assumption) (by assumption) ?_
  intro d2 c2 hd2 hc2 he2
  refine drun_drive 20 (p := (_, _)) ?_
  simp only [go_sem]
  refine drun_end ?_
  refine run_drive 40 ?_
  simp only [go_sem, v32_8]
  refine run_loop ?_
  refine run_drive 40 ?_
  simp only [go_sem, v32_9, v32_4, v32_5, v32_7]
  refine run_drw (by kernel_rfl) ?_
  refine drun_drive 20 (p := (_, _)) ?_
  simp only [go_sem, v32_6]
  refine drun_call' ?_
  simp only [go_sem, calV]
  refine sub64 _ _ _ _ (by first | exact Int.natCast_zero.symm | rfl) (by first | decide | assumption) (by assumption) (by assumption) ?_
  intro d3 c3 hd3 hc3 he3
  refine drun_drive 20 (p := (_, _)) ?_
  simp only [go_sem]
  refine drun_end ?_
  refine run_drive 40 ?_
  simp only [go_sem, v32_8]
  refine run_loop ?_
  refine run_drive 40 ?_
  simp only [go_sem, v32_9, v32_4, v32_11]
  refine run_ret_drop Tryd.func32 res32 [] (.tup [lw (d0 + 18446744073709551616 * d1 + 340282366920938463463374607431768211456 * d2 + 6277101735386680763835789423207666416102355444464034512896 * d3), u c3]) [] rfl (by simp) trivial (by simp [uniq]) ?_ (hQ _ _ ?_ hc3 ?_)
  · rw [lw_of hd0 hd1 hd2 hd3]
    simp only [go_sem, rr32, ren, rens, u]
  · omega
  · rw [eA hA, eB hB]; omega
theorem mul64 (x y : Nat) (hx : x < 18446744073709551616) (hy : y < 18446744073709551616) {Q : V → Heap → Prop} (hQ : ∀ hi lo : Nat, hi < 18446744073709551616 → lo < 18446744073709551616 → x * y = 18446744073709551616 * hi + lo → Q (.tup [.int .u64 (hi : Int), .int .u64 (lo : Int)]) []) : VCall Tryd.prog G 42 [.int .u64 (x : Int), .int .u64 (y : Int)] [] Q := by
  refine vcall_body Tryd.func42 nm42 code42 nt42 ?_
  refine run_drive 100 ?_
  simp only [go_sem, v42_0, v42_1, v42_2, v42_3, v42_4, v42_5, v42_6, v42_7, v42_8, v42_9, v42_10, v42_11, v42]
  refine run_ret' Tryd.func42 res42 ?_
  simp only [go_sem, rr42]
  exact hQ _ _ (Nat.mod_lt _ (by decide)) (Nat.mod_lt _ (by decide)) (mul64_law x y hx hy)
noncomputable def add64E : Array Value → Sem Value := (Extern.find Tryd.f41).getD fun _ => Pure.pure undef
theorem add64E_run (P : Program) (x y b : Nat) (hb : b ≤ 1) (w : World) : (add64E #[.int .u64 x, .int .u64 y, .int .u64 b]).run P w =
      .ok (.tuple #[.int .u64 (((x + y + b) % 18446744073709551616 : Nat) : Int), .int .u64 (((x + y + b) / 18446744073709551616 : Nat) : Int)]) w := by
  have : b = 0 ∨ b = 1 := by omega
  rcases this with rfl | rfl <;> rfl
theorem add64 (x y c : Nat) (ci : Int) (hci : ci = (c : Int)) (hc : c ≤ 1) (hx : x < 18446744073709551616) (hy : y < 18446744073709551616) {h : Heap} {R : V → Heap → Prop} (hq : ∀ d b : Nat, d < 18446744073709551616 → b ≤ 1 → x + y + c = 18446744073709551616 * b + d → R (.tup [.int .u64 (d : Int), .int .u64 (b : Int)]) h) : VCall Tryd.prog G 41 [.int .u64 (x : Int), .int .u64 (y : Int), .int .u64 ci] h R := by
  subst hci
  refine vcall_plain (vcall_value (v := .tup [u ((x + y + c) % 18446744073709551616), u ((x + y + c) / 18446744073709551616)]) [.int .u64 x, .int .u64 y, .int .u64 c] (.tuple #[.int .u64 ((x + y + c) % 18446744073709551616 : Nat), .int .u64 (((x + y + c) / 18446744073709551616 : Nat) : Int)]) (by simp only [concs, conc, Option.bind_some, Option.map_some]) (by simp only [u, concs, conc, Option.bind_some, Option.map_some]) fun w => ?_) (fun g => by simp only [rens, ren]) (fun v g hv => ?_) fun v hv => ?_
  · rw [run_callFunc_extern Tryd.func41 (by kernel_rfl) (by kernel_rfl) (by kernel_rfl) (e := add64E) (by kernel_rfl)]
    rw [show (([.int .u64 x, .int .u64 y, .int .u64 c] : List Value).toArray) = #[.int .u64 (x : Int), .int .u64 (y : Int), .int .u64 (c : Int)] from rfl, add64E_run _ x y c hc]
    rfl
  · subst hv; simp only [u, rens, ren]
  · subst hv
    exact hq _ _ (Nat.mod_lt _ (by decide)) (by omega) (by omega)
theorem mul64' (x y : Nat) (hx : x < 18446744073709551616) (hy : y < 18446744073709551616) {h : Heap} {R : V → Heap → Prop} (hQ : ∀ hi lo : Nat, hi < 18446744073709551616 → lo < 18446744073709551616 → x * y = 18446744073709551616 * hi + lo → R (.tup [.int .u64 (hi : Int), .int .u64 (lo : Int)]) h) : VCall Tryd.prog G 42 [.int .u64 (x : Int), .int .u64 (y : Int)] h R := by
  refine vcall_plain (Q := fun v => ∃ hi lo : Nat, hi < 18446744073709551616 ∧ lo < 18446744073709551616 ∧ x * y = 18446744073709551616 * hi + lo ∧ v = .tup [.int .u64 (hi : Int), .int .u64 (lo : Int)]) (mul64 x y hx hy fun hi lo h1 h2 h3 => ⟨⟨hi, lo, h1, h2, h3, rfl⟩, rfl⟩) (fun g => by simp only [rens, ren]) ?_ ?_
  · rintro v g ⟨hi, lo, _, _, _, rfl⟩; simp only [rens, ren]
  · rintro v ⟨hi, lo, h1, h2, h3, rfl⟩; exact hQ hi lo h1 h2 h3
theorem into (x y z c : Nat) (hx : x < 18446744073709551616) (hy : y < 18446744073709551616) (hz : z < 18446744073709551616) (hc : c < 18446744073709551616) {Q : V → Heap → Prop} (hQ : ∀ lo hi : Nat, lo < 18446744073709551616 → hi < 18446744073709551616 → x * y + z + c = 18446744073709551616 * hi + lo → Q (.tup [.int .u64 (lo : Int), .int .u64 (hi : Int)]) []) :
    VCall Tryd.prog G 40 [.int .u64 (x : Int), .int .u64 (y : Int), .int .u64 (z : Int), .int .u64 (c : Int)] [] Q := by
  refine vcall_body Tryd.func40 nm40 code40 nt40 ?_
  refine run_drive 100 ?_
  simp only [go_sem, v40_0, v40_1, v40_2, v40_3, v40_4, v40_5, v40]
  refine run_call' rfl ?_
  simp only [go_sem, calV]
  refine mul64' _ _ hx hy ?_
  intro h1 l1 hh1 hl1 e1
  refine run_drive 100 ?_
  simp only [go_sem]
  refine run_call' rfl ?_
  simp only [go_sem, calV]
  refine add64 _ _ 0 _ rfl (by decide) hl1 hz ?_
  intro l2 k2 hl2 hk2 e2
  refine run_drive 100 ?_
  simp only [go_sem]
  refine run_call' rfl ?_
  simp only [go_sem, calV]
  refine add64 _ _ 0 _ rfl (by decide) hl2 hc ?_
  intro l3 k3 hl3 hk3 e3
  refine run_drive 100 ?_
  simp only [go_sem]
  refine run_ret' Tryd.func40 res40 ?_
  simp only [go_sem, rr40]
  have hb : x * y ≤ 18446744073709551615 * 18446744073709551615 := Nat.mul_le_mul (by omega) (by omega)
  generalize x * y = p at *
  refine hQ _ _ hl3 (Nat.mod_lt _ (by decide)) ?_
  simp only [w64]
  omega
theorem into' (x y z c : Nat) (hx : x < 18446744073709551616) (hy : y < 18446744073709551616) (hz : z < 18446744073709551616) (hc : c < 18446744073709551616) (ci : Int) (hci : ci = (c : Int)) (zi : Int) (hzi : zi = (z : Int)) {h : Heap} {R : V → Heap → Prop} (hQ : ∀ lo hi : Nat, lo < 18446744073709551616 → hi < 18446744073709551616 → x * y + z + c = 18446744073709551616 * hi + lo → R (.tup [.int .u64 (lo : Int), .int .u64 (hi : Int)]) h) :
    VCall Tryd.prog G 40 [.int .u64 (x : Int), .int .u64 (y : Int), .int .u64 zi, .int .u64 ci] h R := by
  subst hci; subst hzi
  refine vcall_plain (Q := fun v => ∃ lo hi : Nat, lo < 18446744073709551616 ∧ hi < 18446744073709551616 ∧ x * y + z + c = 18446744073709551616 * hi + lo ∧ v = .tup [.int .u64 (lo : Int), .int .u64 (hi : Int)]) (into x y z c hx hy hz hc fun lo hi h1 h2 h3 => ⟨⟨lo, hi, h1, h2, h3, rfl⟩, rfl⟩) (fun g => by simp only [rens, ren]) ?_ ?_
  · rintro v g ⟨hi, lo, _, _, _, rfl⟩; simp only [rens, ren]
  · rintro v ⟨hi, lo, h1, h2, h3, rfl⟩; exact hQ hi lo h1 h2 h3
theorem minus' (A B : Nat) (hA : A < 115792089237316195423570985008687907853269984665640564039457584007913129639936) (hB : B < 115792089237316195423570985008687907853269984665640564039457584007913129639936) {h : Heap} {R : V → Heap → Prop}
    (hQ : ∀ D b : Nat, D < 115792089237316195423570985008687907853269984665640564039457584007913129639936 → b ≤ 1 → A + 115792089237316195423570985008687907853269984665640564039457584007913129639936 * b = B + D → R (.tup [lw D, u b]) h) : VCall Tryd.prog G 32 [lw A, lw B] h R := by
  refine vcall_plain (Q := fun v => ∃ D b : Nat, D < 115792089237316195423570985008687907853269984665640564039457584007913129639936 ∧ b ≤ 1 ∧ A + 115792089237316195423570985008687907853269984665640564039457584007913129639936 * b = B + D ∧ v = .tup [lw D, u b]) (minus A B hA hB _ fun D b h1 h2 h3 => ⟨⟨D, b, h1, h2, h3, rfl⟩, rfl⟩) (fun g => by simp only [rens, ren, lw, lc, u]) ?_ ?_
  · rintro v g ⟨hi, lo, _, _, _, rfl⟩; simp only [rens, ren, lw, lc, u]
  · rintro v ⟨hi, lo, h1, h2, h3, rfl⟩; exact hQ hi lo h1 h2 h3
end
section
attribute [local go_sem] Option.isSome_some Option.isSome_none Kind.m Kind.w Kind.g look_ro look_rw look_grow lenO drive stepV exo expo evs fillV isNil nilKind eqV eqL optA optM sliceAtV ev kn V.known V.one ldc stc splice cellsOf asK asN asB asS asG asT appV srcV lenV setd wantV exitV rvs rv one List.length_cons List.length_nil List.cons_append List.nil_append List.append_nil List.replicate List.getD_cons_zero List.getD_cons_succ List.set_cons_zero List.set_cons_succ List.getElem?_cons_zero List.getElem?_cons_succ List.getElem?_nil List.take_succ_cons List.take_zero List.take_nil List.drop_succ_cons List.drop_zero List.drop_nil List.all_cons List.all_nil List.any_cons List.any_nil Bool.and_true Bool.true_and Bool.and_self Option.map_some Option.map_none Option.bind_some Option.some.injEq Nat.add_zero Nat.zero_add Int.toNat_zero Int.toNat_one Int.zero_add Int.add_zero if_true if_false ite_true ite_false and_true true_and and_self ne_eq not_false_eq_true not_true_eq_false decide_true decide_false Bool.false_eq_true Bool.not_true Bool.not_false beq_self_eq_true BEq.rfl Bool.not_eq_true Nat.le_refl Int.le_refl Nat.zero_le List.foldl List.map_cons List.map_nil Prod.mk.injEq Int.cast_ofNat_Int Int.zero_le_ofNat b_add_cc b_add_cl b_add_lc b_mul_cc b_mul_cl b_mul_lc b_sub_cc b_sub_cl b_sub_lc b_and_cc b_and_cl b_and_lc b_or_cc b_or_cl b_or_lc b_xor_cc b_xor_cl b_xor_lc b_andNot_cc b_andNot_cl b_andNot_lc b_shr_cc b_shr_cl b_shr_lc b_shl_cc b_shl_cl b_shl_lc b_lss b_leq b_gtr b_geq b_add_i b_sub_i b_mul_i beq_cc beq_cl beq_lc beq_ll b_quo_i b_rem_i neg_u64 wrap_i64 driveD stepD idsAt idOf maskH_nil restore_nil restore_mask List.filterMap_nil List.filterMap_cons VOp.looks VOp.makes exA
theorem lw_plain (n : Nat) (g : Nat → Nat) : ren g (lw n) = lw n := by simp only [rens, ren, lw, lc, u]
@[simp] theorem lc_len (n : Nat) : (lc n).length = 4 := rfl
theorem lc_take (n : Nat) : (lc n).take 4 = lc n := rfl
theorem lc_drop (n : Nat) : (lc n).drop 4 = [] := rfl
theorem lc_known (n : Nat) : (lc n).all V.known = true := rfl
theorem lc_one (n : Nat) : (lc n).all V.one = true := rfl
theorem lc_rens (n : Nat) (g : Nat → Nat) : rens g (lc n) = lc n := by simp only [rens, ren, lc, u]
theorem lc_cells (n : Nat) : cellsOf (lw n) = lc n := rfl
theorem lw_known (n : Nat) : (lw n).known = true := rfl
theorem lw_asG (n : Nat) : asG (lw n) = some (lc n) := rfl
theorem lw_agg (n : Nat) : V.agg (lc n) = lw n := rfl
theorem lc_zero : [V.int .u64 (nl 0), V.int .u64 (nl 0), V.int .u64 (nl 0), V.int .u64 (nl 0)] = lc 0 := rfl
theorem lc_fit (g : Nat → Nat) (n : Nat) : fit g (lc n) (lc n) := by simp only [fit, lc, u, ren, or_true, and_self]
set_option maxRecDepth 100000
set_option maxHeartbeats 1000000
theorem plus (A B : Nat) (hA : A < 115792089237316195423570985008687907853269984665640564039457584007913129639936) (hB : B < 115792089237316195423570985008687907853269984665640564039457584007913129639936) (Q : V → Heap → Prop)
    (hQ : ∀ D b : Nat, D < 115792089237316195423570985008687907853269984665640564039457584007913129639936 → b ≤ 1 → A + B = 115792089237316195423570985008687907853269984665640564039457584007913129639936 * b + D → Q (.tup [lw D, u b]) []) : VCall Tryd.prog G 29 [lw A, lw B] [] Q := by
  refine vcall_body Tryd.func29 nm29 code29 nt29 ?_
  obtain ⟨a0, a1, a2, a3, ha0, ha1, ha2, ha3, ea, eA⟩ := limbs A
  obtain ⟨b0, b1, b2, b3, hb0, hb1, hb2, hb3, eb, eB⟩ := limbs B
  rw [ea, eb]
  refine run_drive 40 ?_
  simp only [go_sem, v29, v29_0, v29_1, v29_2, v29_3, v29_10]
  refine run_loop ?_
  refine run_drive 40 ?_
  simp only [go_sem, v29_9, v29_4, v29_5, v29_7]
  refine run_drw (by kernel_rfl) ?_
  refine drun_drive 20 (p := (_, _)) ?_
  simp only [go_sem, v29_6]
  refine drun_call' ?_
  simp only [go_sem, calV]
  refine add64 _ _ _ _ (by first | exact Int.natCast_zero.symm | rfl) (by first | decide | assumption) (by assumption) (by assumption) ?_
  intro d0 c0 hd0 hc0 he0
  refine drun_drive 20 (p := (_, _)) ?_
  simp only [go_sem]
  refine drun_end ?_
  refine run_drive 40 ?_
  simp only [go_sem, v29_8]
  refine run_loop ?_
  refine run_drive 40 ?_
  simp only [go_sem, v29_9, v29_4, v29_5, v29_7]
  refine run_drw (by kernel_rfl) ?_
  refine drun_drive 20 (p := (_, _)) ?_
  simp only [go_sem, v29_6]
  refine drun_call' ?_
  simp only [go_sem, calV]
  refine add64 _ _ _ _ (by first | exact Int.natCast_zero.symm | rfl) (by first | decide | assumption) (by assumption) (by assumption) ?_
  intro d1 c1 hd1 hc1 he1
  refine drun_drive 20 (p := (_, _)) ?_
  simp only [go_sem]
  refine drun_end ?_
  refine run_drive 40 ?_
  simp only [go_sem, v29_8]
  refine run_loop ?_
  refine run_drive 40 ?_
  simp only [go_sem, v29_9, v29_4, v29_5, v29_7]
  refine run_drw (by kernel_rfl) ?_
  refine drun_drive 20 (p := (_, _)) ?_
  simp only [go_sem, v29_6]
  refine drun_call' ?_
  simp only [go_sem, calV]
  refine add64 _ _ _ _ (by first | exact Int.natCast_zero.symm | rfl) (by first | decide | assumption) (by assumption) (by assumption) ?_
  intro d2 c2 hd2 hc2 he2
  refine drun_drive 20 (p := (_, _)) ?_
  simp only [go_sem]
  refine drun_end ?_
  refine run_drive 40 ?_
  simp only [go_sem, v29_8]
  refine run_loop ?_
  refine run_drive 40 ?_
  simp only [go_sem, v29_9, v29_4, v29_5, v29_7]
  refine run_drw (by kernel_rfl) ?_
  refine drun_drive 20 (p := (_, _)) ?_
  simp only [go_sem, v29_6]
  refine drun_call' ?_
  simp only [go_sem, calV]
  refine add64 _ _ _ _ (by first | exact Int.natCast_zero.symm | rfl) (by first | decide | assumption) (by assumption) (by assumption) ?_
  intro d3 c3 hd3 hc3 he3
  refine drun_drive 20 (p := (_, _)) ?_
  simp only [go_sem]
  refine drun_end ?_
  refine run_drive 40 ?_
  simp only [go_sem, v29_8]
  refine run_loop ?_
  refine run_drive 40 ?_
  simp only [go_sem, v29_9, v29_4, v29_11]
  refine run_ret_drop Tryd.func29 res29 [] (.tup [lw (d0 + 18446744073709551616 * d1 + 340282366920938463463374607431768211456 * d2 + 6277101735386680763835789423207666416102355444464034512896 * d3), u c3]) [] rfl (by simp) trivial (by simp [uniq]) ?_ (hQ _ _ ?_ hc3 ?_)
  · rw [lw_of hd0 hd1 hd2 hd3]
    simp only [go_sem, rr29, ren, rens, u]
  · omega
  · rw [eA hA, eB hB]; omega
theorem choose (m : Bool) (A B : Nat) (mi : Int) (hm : mi = (if m = true then 18446744073709551615 else 0 : Nat)) (Q : V → Heap → Prop) (hQ : Q (if m = true then lw A else lw B) []) : VCall Tryd.prog G 33 [.int .u64 mi, lw A, lw B] [] Q := by
  subst hm
  refine vcall_body Tryd.func33 nm33 code33 nt33 ?_
  obtain ⟨a0, a1, a2, a3, ha0, ha1, ha2, ha3, ea, eA⟩ := limbs A
  obtain ⟨b0, b1, b2, b3, hb0, hb1, hb2, hb3, eb, eB⟩ := limbs B
  rw [ea, eb]
  generalize hk : (if m = true then 18446744073709551615 else 0 : Nat) = k
  refine run_drive 40 ?_
  simp only [go_sem, v33, v33_0, v33_1, v33_8]
  refine run_loop ?_
  refine run_drive 40 ?_
  simp only [go_sem, v33_7, v33_2, v33_3, v33_5]
  refine run_drw (by kernel_rfl) ?_
  refine drun_drive 20 (p := (_, _)) ?_
  simp only [go_sem, v33_4]
  refine drun_end ?_
  refine run_drive 40 ?_
  simp only [go_sem, v33_6]
  refine run_loop ?_
  refine run_drive 40 ?_
  simp only [go_sem, v33_7, v33_2, v33_3, v33_5]
  refine run_drw (by kernel_rfl) ?_
  refine drun_drive 20 (p := (_, _)) ?_
  simp only [go_sem, v33_4]
  refine drun_end ?_
  refine run_drive 40 ?_
  simp only [go_sem, v33_6]
  refine run_loop ?_
  refine run_drive 40 ?_
  simp only [go_sem, v33_7, v33_2, v33_3, v33_5]
  refine run_drw (by kernel_rfl) ?_
  refine drun_drive 20 (p := (_, _)) ?_
  simp only [go_sem, v33_4]
  refine drun_end ?_
  refine run_drive 40 ?_
  simp only [go_sem, v33_6]
  refine run_loop ?_
  refine run_drive 40 ?_
  simp only [go_sem, v33_7, v33_2, v33_3, v33_5]
  refine run_drw (by kernel_rfl) ?_
  refine drun_drive 20 (p := (_, _)) ?_
  simp only [go_sem, v33_4]
  refine drun_end ?_
  refine run_drive 40 ?_
  simp only [go_sem, v33_6]
  refine run_loop ?_
  refine run_drive 40 ?_
  simp only [go_sem, v33_7, v33_2, v33_9]
  have key : ∀ a b : Nat, a < 18446744073709551616 → b < 18446744073709551616 → o64 (a64 a k) (n64 b k) = if m = true then a else b := by
    intro a b ha hb
    subst hk
    unfold o64 a64 n64
    rw [Nat.mod_eq_of_lt ha, Nat.mod_eq_of_lt hb]
    cases m
    · simp only [Bool.false_eq_true, if_false]
      rw [Nat.zero_mod, Nat.and_zero, Nat.zero_mod, Nat.zero_or, Nat.sub_zero, show (18446744073709551615 : Nat) = 2 ^ 64 - 1 from rfl, Nat.and_two_pow_sub_one_eq_mod]
      omega
    · simp only [if_true]
      rw [show 18446744073709551615 - 18446744073709551615 % 18446744073709551616 = 0 from rfl, Nat.and_zero, Nat.zero_mod, Nat.or_zero, show 18446744073709551615 % 18446744073709551616 = 2 ^ 64 - 1 from rfl, Nat.and_two_pow_sub_one_eq_mod]
      omega
  refine run_ret_drop Tryd.func33 res33 [] (if m = true then lw A else lw B) [] rfl (by simp) trivial (by simp [uniq]) ?_ hQ
  simp only [go_sem, rr33, key _ _ ha0 hb0, key _ _ ha1 hb1, key _ _ ha2 hb2, key _ _ ha3 hb3]
  cases m <;> simp only [Bool.false_eq_true, if_false, if_true, ea, eb, ren, rens]
end
section
attribute [local go_sem] Option.isSome_some Option.isSome_none Kind.m Kind.w Kind.g look_ro look_rw look_grow lenO drive stepV exo expo evs fillV isNil nilKind eqV eqL optA optM sliceAtV ev kn V.known V.one ldc stc splice cellsOf asK asN asB asS asG asT appV srcV lenV setd wantV exitV rvs rv one List.length_cons List.length_nil List.cons_append List.nil_append List.append_nil List.replicate List.getD_cons_zero List.getD_cons_succ List.set_cons_zero List.set_cons_succ List.getElem?_cons_zero List.getElem?_cons_succ List.getElem?_nil List.take_succ_cons List.take_zero List.take_nil List.drop_succ_cons List.drop_zero List.drop_nil List.all_cons List.all_nil List.any_cons List.any_nil Bool.and_true Bool.true_and Bool.and_self Option.map_some Option.map_none Option.bind_some Option.some.injEq Nat.add_zero Nat.zero_add Int.toNat_zero Int.toNat_one Int.zero_add Int.add_zero if_true if_false ite_true ite_false and_true true_and and_self ne_eq not_false_eq_true not_true_eq_false decide_true decide_false Bool.false_eq_true Bool.not_true Bool.not_false beq_self_eq_true BEq.rfl Bool.not_eq_true Nat.le_refl Int.le_refl Nat.zero_le List.foldl List.map_cons List.map_nil Prod.mk.injEq Int.cast_ofNat_Int Int.zero_le_ofNat b_add_cc b_add_cl b_add_lc b_mul_cc b_mul_cl b_mul_lc b_sub_cc b_sub_cl b_sub_lc b_and_cc b_and_cl b_and_lc b_or_cc b_or_cl b_or_lc b_xor_cc b_xor_cl b_xor_lc b_andNot_cc b_andNot_cl b_andNot_lc b_shr_cc b_shr_cl b_shr_lc b_shl_cc b_shl_cl b_shl_lc b_lss b_leq b_gtr b_geq b_add_i b_sub_i b_mul_i beq_cc beq_cl beq_lc beq_ll b_quo_i b_rem_i neg_u64 wrap_i64 driveD stepD idsAt idOf maskH_nil restore_nil restore_mask List.filterMap_nil List.filterMap_cons VOp.looks VOp.makes exA
def ell : Nat := 7237005577332262213973186563042994240857116359379907606001950938285454250989
def tbl : List V := [.int .u64 (nl 6346243789798364141), .int .u64 (nl 1503914060200516822), .int .u64 (nl 0), .int .u64 (nl 1152921504606846976),
  .int .u64 (nl 15486807595281847581), .int .u64 (nl 14334777244411350896), .int .u64 (nl 18446744073709551614), .int .u64 (nl 1152921504606846975),
  .int .u64 (nl 11819153939886771969), .int .u64 (nl 14991950615390032711), .int .u64 (nl 14910419812499177061), .int .u64 (nl 259310039853996605),
  .int .u64 (nl 6346243789798364139), .int .u64 (nl 1503914060200516822), .int .u64 (nl 0), .int .u64 (nl 1152921504606846976)]
theorem lw_ell : V.agg [.int .u64 (nl 6346243789798364141), .int .u64 (nl 1503914060200516822), .int .u64 (nl 0), .int .u64 (nl 1152921504606846976)] = lw ell := rfl
theorem choose' (m : Bool) (A B : Nat) (mi : Int) (hm : mi = (if m = true then 18446744073709551615 else 0 : Nat)) {h : Heap} {R : V → Heap → Prop} (hQ : R (if m = true then lw A else lw B) h) : VCall Tryd.prog G 33 [.int .u64 mi, lw A, lw B] h R := by
  refine vcall_plain (Q := fun v => v = if m = true then lw A else lw B) (choose m A B mi hm _ ⟨rfl, rfl⟩) (fun g => by simp only [rens, ren, lw, lc, u]) ?_ ?_
  · rintro v g rfl; cases m <;> simp only [Bool.false_eq_true, if_false, if_true, lw_plain]
  · rintro v rfl; exact hQ
theorem plus' (A B : Nat) (hA : A < 115792089237316195423570985008687907853269984665640564039457584007913129639936) (hB : B < 115792089237316195423570985008687907853269984665640564039457584007913129639936) {h : Heap} {R : V → Heap → Prop}
    (hQ : ∀ D b : Nat, D < 115792089237316195423570985008687907853269984665640564039457584007913129639936 → b ≤ 1 → A + B = 115792089237316195423570985008687907853269984665640564039457584007913129639936 * b + D → R (.tup [lw D, u b]) h) : VCall Tryd.prog G 29 [lw A, lw B] h R := by
  refine vcall_plain (Q := fun v => ∃ D b : Nat, D < 115792089237316195423570985008687907853269984665640564039457584007913129639936 ∧ b ≤ 1 ∧ A + B = 115792089237316195423570985008687907853269984665640564039457584007913129639936 * b + D ∧ v = .tup [lw D, u b]) (plus A B hA hB _ fun D b h1 h2 h3 => ⟨⟨D, b, h1, h2, h3, rfl⟩, rfl⟩) (fun g => by simp only [rens, ren, lw, lc, u]) ?_ ?_
  · rintro v g ⟨hi, lo, _, _, _, rfl⟩; simp only [rens, ren, lw, lc, u]
  · rintro v ⟨hi, lo, h1, h2, h3, rfl⟩; exact hQ hi lo h1 h2 h3
theorem mask_of {b : Nat} (hb : b ≤ 1) : ((s64 0 b : Nat) : Int) = ((if decide (b = 1) = true then 18446744073709551615 else 0 : Nat) : Int) := by
  have : b = 0 ∨ b = 1 := by omega
  rcases this with rfl | rfl <;> rfl
set_option maxRecDepth 100000
set_option maxHeartbeats 1000000
theorem lower (hG : G 0 = tbl) (A : Nat) (hA : A < 115792089237316195423570985008687907853269984665640564039457584007913129639936) (Q : V → Heap → Prop) (hQ : Q (lw (if ell ≤ A then A - ell else A)) []) : VCall Tryd.prog G 30 [lw A] [] Q := by
  refine vcall_body Tryd.func30 nm30 code30 nt30 ?_
  obtain ⟨a0, a1, a2, a3, ha0, ha1, ha2, ha3, ea, eA⟩ := limbs A
  rw [ea]
  refine run_drive 40 ?_
  simp only [go_sem, v30_0, v30_1, v30_2, v30, hG, tbl]
  refine run_call' rfl ?_
  simp only [go_sem, calV, lw_ell]
  rw [← ea]
  refine minus' A ell hA (by decide) ?_
  intro D b hD hb he
  obtain ⟨d0, d1, d2, d3, hd0, hd1, hd2, hd3, ed, eD⟩ := limbs D
  rw [ed, ea]
  simp only [u]
  refine run_drive 40 ?_
  simp only [go_sem]
  refine run_call' rfl ?_
  simp only [go_sem, calV]
  rw [← ed, ← ea]
  refine choose' (decide (b = 1)) A D _ (mask_of hb) ?_
  have hR : (if decide (b = 1) = true then lw A else lw D) = lw (if ell ≤ A then A - ell else A) := by
    have hell : ell < 115792089237316195423570985008687907853269984665640564039457584007913129639936 := by decide
    by_cases h1 : b = 1
    · subst h1
      rw [if_pos (by decide), if_neg (by omega)]
    · rw [if_neg (by simpa using h1), if_pos (by omega)]
      have h0 : b = 0 := by omega
      subst h0
      exact congrArg lw (by omega)
  rw [hR]
  obtain ⟨r0, r1, r2, r3, hr0, hr1, hr2, hr3, er, eR⟩ := limbs (if ell ≤ A then A - ell else A)
  rw [er, ea, ed]
  refine run_drive 40 ?_
  simp only [go_sem]
  refine run_ret_drop Tryd.func30 res30 [] (lw (if ell ≤ A then A - ell else A)) [] rfl (by simp) trivial (by simp [uniq]) ?_ hQ
  simp only [go_sem, rr30, er, ren, rens]
end
section
attribute [local go_sem] Option.isSome_some Option.isSome_none Kind.m Kind.w Kind.g look_ro look_rw look_grow lenO drive stepV exo expo evs fillV isNil nilKind eqV eqL optA optM sliceAtV ev kn V.known V.one ldc stc splice cellsOf asK asN asB asS asG asT appV srcV lenV setd wantV exitV rvs rv one List.length_cons List.length_nil List.cons_append List.nil_append List.append_nil List.replicate List.getD_cons_zero List.getD_cons_succ List.set_cons_zero List.set_cons_succ List.getElem?_cons_zero List.getElem?_cons_succ List.getElem?_nil List.take_succ_cons List.take_zero List.take_nil List.drop_succ_cons List.drop_zero List.drop_nil List.all_cons List.all_nil List.any_cons List.any_nil Bool.and_true Bool.true_and Bool.and_self Option.map_some Option.map_none Option.bind_some Option.some.injEq Nat.add_zero Nat.zero_add Int.toNat_zero Int.toNat_one Int.zero_add Int.add_zero if_true if_false ite_true ite_false and_true true_and and_self ne_eq not_false_eq_true not_true_eq_false decide_true decide_false Bool.false_eq_true Bool.not_true Bool.not_false beq_self_eq_true BEq.rfl Bool.not_eq_true Nat.le_refl Int.le_refl Nat.zero_le List.foldl List.map_cons List.map_nil Prod.mk.injEq Int.cast_ofNat_Int Int.zero_le_ofNat b_add_cc b_add_cl b_add_lc b_mul_cc b_mul_cl b_mul_lc b_sub_cc b_sub_cl b_sub_lc b_and_cc b_and_cl b_and_lc b_or_cc b_or_cl b_or_lc b_xor_cc b_xor_cl b_xor_lc b_andNot_cc b_andNot_cl b_andNot_lc b_shr_cc b_shr_cl b_shr_lc b_shl_cc b_shl_cl b_shl_lc b_lss b_leq b_gtr b_geq b_add_i b_sub_i b_mul_i beq_cc beq_cl beq_lc beq_ll b_quo_i b_rem_i neg_u64 wrap_i64 driveD stepD idsAt idOf maskH_nil restore_nil restore_mask List.filterMap_nil List.filterMap_cons VOp.looks VOp.makes exA
set_option maxRecDepth 100000
theorem limbs4 (D : Nat) (hD : D < 115792089237316195423570985008687907853269984665640564039457584007913129639936) : ∃ d0 d1 d2 d3 : Nat, d0 < 18446744073709551616 ∧ d1 < 18446744073709551616 ∧ d2 < 18446744073709551616 ∧ d3 < 18446744073709551616 ∧ lw D = .agg [.int .u64 (d0 : Int), .int .u64 (d1 : Int), .int .u64 (d2 : Int), .int .u64 (d3 : Int)] ∧ D = (d0 + 18446744073709551616 * d1 + 340282366920938463463374607431768211456 * d2 + 6277101735386680763835789423207666416102355444464034512896 * d3) := by
  obtain ⟨d0, d1, d2, d3, h0, h1, h2, h3, e, E⟩ := limbs D
  exact ⟨d0, d1, d2, d3, h0, h1, h2, h3, e, E hD⟩
theorem minus_c (a0 a1 a2 a3 b0 b1 b2 b3 : Nat) (ha0 : a0 < 18446744073709551616) (ha1 : a1 < 18446744073709551616) (ha2 : a2 < 18446744073709551616) (ha3 : a3 < 18446744073709551616) (hb0 : b0 < 18446744073709551616) (hb1 : b1 < 18446744073709551616) (hb2 : b2 < 18446744073709551616) (hb3 : b3 < 18446744073709551616) {h : Heap} {R : V → Heap → Prop}
    (hQ : ∀ d0 d1 d2 d3 k : Nat, d0 < 18446744073709551616 → d1 < 18446744073709551616 → d2 < 18446744073709551616 → d3 < 18446744073709551616 → k ≤ 1 → (a0 + 18446744073709551616 * a1 + 340282366920938463463374607431768211456 * a2 + 6277101735386680763835789423207666416102355444464034512896 * a3) + 115792089237316195423570985008687907853269984665640564039457584007913129639936 * k = (b0 + 18446744073709551616 * b1 + 340282366920938463463374607431768211456 * b2 + 6277101735386680763835789423207666416102355444464034512896 * b3) + (d0 + 18446744073709551616 * d1 + 340282366920938463463374607431768211456 * d2 + 6277101735386680763835789423207666416102355444464034512896 * d3) → R (.tup [.agg [.int .u64 (d0 : Int), .int .u64 (d1 : Int), .int .u64 (d2 : Int), .int .u64 (d3 : Int)], .int .u64 (k : Int)]) h) :
    VCall Tryd.prog G 32 [.agg [.int .u64 (a0 : Int), .int .u64 (a1 : Int), .int .u64 (a2 : Int), .int .u64 (a3 : Int)], .agg [.int .u64 (b0 : Int), .int .u64 (b1 : Int), .int .u64 (b2 : Int), .int .u64 (b3 : Int)]] h R := by
  rw [← lw_of ha0 ha1 ha2 ha3, ← lw_of hb0 hb1 hb2 hb3]
  refine minus' _ _ (by omega) (by omega) fun D k hD hk e => ?_
  obtain ⟨d0, d1, d2, d3, h0, h1, h2, h3, ed, eD⟩ := limbs4 D hD
  rw [ed]
  exact hQ d0 d1 d2 d3 k h0 h1 h2 h3 hk (by rw [← eD]; exact e)
theorem plus_c (a0 a1 a2 a3 b0 b1 b2 b3 : Nat) (ha0 : a0 < 18446744073709551616) (ha1 : a1 < 18446744073709551616) (ha2 : a2 < 18446744073709551616) (ha3 : a3 < 18446744073709551616) (hb0 : b0 < 18446744073709551616) (hb1 : b1 < 18446744073709551616) (hb2 : b2 < 18446744073709551616) (hb3 : b3 < 18446744073709551616) {h : Heap} {R : V → Heap → Prop}
    (hQ : ∀ d0 d1 d2 d3 k : Nat, d0 < 18446744073709551616 → d1 < 18446744073709551616 → d2 < 18446744073709551616 → d3 < 18446744073709551616 → k ≤ 1 → (a0 + 18446744073709551616 * a1 + 340282366920938463463374607431768211456 * a2 + 6277101735386680763835789423207666416102355444464034512896 * a3) + (b0 + 18446744073709551616 * b1 + 340282366920938463463374607431768211456 * b2 + 6277101735386680763835789423207666416102355444464034512896 * b3) = 115792089237316195423570985008687907853269984665640564039457584007913129639936 * k + (d0 + 18446744073709551616 * d1 + 340282366920938463463374607431768211456 * d2 + 6277101735386680763835789423207666416102355444464034512896 * d3) → R (.tup [.agg [.int .u64 (d0 : Int), .int .u64 (d1 : Int), .int .u64 (d2 : Int), .int .u64 (d3 : Int)], .int .u64 (k : Int)]) h) :
    VCall Tryd.prog G 29 [.agg [.int .u64 (a0 : Int), .int .u64 (a1 : Int), .int .u64 (a2 : Int), .int .u64 (a3 : Int)], .agg [.int .u64 (b0 : Int), .int .u64 (b1 : Int), .int .u64 (b2 : Int), .int .u64 (b3 : Int)]] h R := by
  rw [← lw_of ha0 ha1 ha2 ha3, ← lw_of hb0 hb1 hb2 hb3]
  refine plus' _ _ (by omega) (by omega) fun D k hD hk e => ?_
  obtain ⟨d0, d1, d2, d3, h0, h1, h2, h3, ed, eD⟩ := limbs4 D hD
  rw [ed]
  exact hQ d0 d1 d2 d3 k h0 h1 h2 h3 hk (by rw [← eD]; exact e)
theorem choose_c (a0 a1 a2 a3 b0 b1 b2 b3 : Nat) (ha0 : a0 < 18446744073709551616) (ha1 : a1 < 18446744073709551616) (ha2 : a2 < 18446744073709551616) (ha3 : a3 < 18446744073709551616) (hb0 : b0 < 18446744073709551616) (hb1 : b1 < 18446744073709551616) (hb2 : b2 < 18446744073709551616) (hb3 : b3 < 18446744073709551616) (k : Nat) (hk : k ≤ 1) {h : Heap} {R : V → Heap → Prop}
    (hQ : ∀ d0 d1 d2 d3 : Nat, d0 < 18446744073709551616 → d1 < 18446744073709551616 → d2 < 18446744073709551616 → d3 < 18446744073709551616 → (k = 1 → (d0 + 18446744073709551616 * d1 + 340282366920938463463374607431768211456 * d2 + 6277101735386680763835789423207666416102355444464034512896 * d3) = (a0 + 18446744073709551616 * a1 + 340282366920938463463374607431768211456 * a2 + 6277101735386680763835789423207666416102355444464034512896 * a3)) → (k = 0 → (d0 + 18446744073709551616 * d1 + 340282366920938463463374607431768211456 * d2 + 6277101735386680763835789423207666416102355444464034512896 * d3) = (b0 + 18446744073709551616 * b1 + 340282366920938463463374607431768211456 * b2 + 6277101735386680763835789423207666416102355444464034512896 * b3)) → R (.agg [.int .u64 (d0 : Int), .int .u64 (d1 : Int), .int .u64 (d2 : Int), .int .u64 (d3 : Int)]) h) :
    VCall Tryd.prog G 33 [.int .u64 ((s64 0 k : Nat) : Int), .agg [.int .u64 (a0 : Int), .int .u64 (a1 : Int), .int .u64 (a2 : Int), .int .u64 (a3 : Int)], .agg [.int .u64 (b0 : Int), .int .u64 (b1 : Int), .int .u64 (b2 : Int), .int .u64 (b3 : Int)]] h R := by
  rw [← lw_of ha0 ha1 ha2 ha3, ← lw_of hb0 hb1 hb2 hb3]
  refine choose' (decide (k = 1)) _ _ _ (mask_of hk) ?_
  have : k = 0 ∨ k = 1 := by omega
  rcases this with rfl | rfl
  · rw [if_neg (by decide), lw_of hb0 hb1 hb2 hb3]
    exact hQ _ _ _ _ hb0 hb1 hb2 hb3 (fun e => by cases e) (fun _ => rfl)
  · rw [if_pos (by decide), lw_of ha0 ha1 ha2 ha3]
    exact hQ _ _ _ _ ha0 ha1 ha2 ha3 (fun _ => rfl) (fun e => by cases e)
theorem lower' (hG : G 0 = tbl) (A : Nat) (hA : A < 115792089237316195423570985008687907853269984665640564039457584007913129639936) {h : Heap} {R : V → Heap → Prop} (hQ : R (lw (if ell ≤ A then A - ell else A)) h) : VCall Tryd.prog G 30 [lw A] h R := by
  refine vcall_plain (Q := fun v => v = lw (if ell ≤ A then A - ell else A)) (lower hG A hA _ ⟨rfl, rfl⟩) (fun g => by simp only [rens, ren, lw, lc, u]) ?_ ?_
  · rintro v g rfl; exact lw_plain _ g
  · rintro v rfl; exact hQ
theorem lower_c (hG : G 0 = tbl) (a0 a1 a2 a3 : Nat) (ha0 : a0 < 18446744073709551616) (ha1 : a1 < 18446744073709551616) (ha2 : a2 < 18446744073709551616) (ha3 : a3 < 18446744073709551616) {h : Heap} {R : V → Heap → Prop}
    (hQ : ∀ d0 d1 d2 d3 : Nat, d0 < 18446744073709551616 → d1 < 18446744073709551616 → d2 < 18446744073709551616 → d3 < 18446744073709551616 → (d0 + 18446744073709551616 * d1 + 340282366920938463463374607431768211456 * d2 + 6277101735386680763835789423207666416102355444464034512896 * d3) = (if ell ≤ (a0 + 18446744073709551616 * a1 + 340282366920938463463374607431768211456 * a2 + 6277101735386680763835789423207666416102355444464034512896 * a3) then (a0 + 18446744073709551616 * a1 + 340282366920938463463374607431768211456 * a2 + 6277101735386680763835789423207666416102355444464034512896 * a3) - ell else (a0 + 18446744073709551616 * a1 + 340282366920938463463374607431768211456 * a2 + 6277101735386680763835789423207666416102355444464034512896 * a3)) → R (.agg [.int .u64 (d0 : Int), .int .u64 (d1 : Int), .int .u64 (d2 : Int), .int .u64 (d3 : Int)]) h) :
    VCall Tryd.prog G 30 [.agg [.int .u64 (a0 : Int), .int .u64 (a1 : Int), .int .u64 (a2 : Int), .int .u64 (a3 : Int)]] h R := by
  rw [← lw_of ha0 ha1 ha2 ha3]
  refine lower' hG _ (by omega) ?_
  obtain ⟨d0, d1, d2, d3, h0, h1, h2, h3, ed, eD⟩ := limbs4 (if ell ≤ (a0 + 18446744073709551616 * a1 + 340282366920938463463374607431768211456 * a2 + 6277101735386680763835789423207666416102355444464034512896 * a3) then (a0 + 18446744073709551616 * a1 + 340282366920938463463374607431768211456 * a2 + 6277101735386680763835789423207666416102355444464034512896 * a3) - ell else (a0 + 18446744073709551616 * a1 + 340282366920938463463374607431768211456 * a2 + 6277101735386680763835789423207666416102355444464034512896 * a3)) (by split <;> omega)
  rw [ed]
  exact hQ d0 d1 d2 d3 h0 h1 h2 h3 eD.symm
theorem mul64_c (x y : Nat) (hx : x < 18446744073709551616) (hy : y < 18446744073709551616) (yi : Int) (hyi : yi = (y : Int)) {h : Heap} {R : V → Heap → Prop} (hQ : ∀ hi lo : Nat, hi < 18446744073709551616 → lo < 18446744073709551616 → x * y = 18446744073709551616 * hi + lo → R (.tup [.int .u64 (hi : Int), .int .u64 (lo : Int)]) h) : VCall Tryd.prog G 42 [.int .u64 (x : Int), .int .u64 yi] h R := by
  subst hyi; exact mul64' x y hx hy hQ
set_option maxHeartbeats 2000000 in
theorem least (hG : G 0 = tbl) (A : Nat) (hA : A < 115792089237316195423570985008687907853269984665640564039457584007913129639936) (Q : V → Heap → Prop) (hQ : Q (lw (A % ell)) []) : VCall Tryd.prog G 28 [lw A] [] Q := by
  refine vcall_body Tryd.func28 nm28 code28 nt28 ?_
  obtain ⟨a0, a1, a2, a3, ha0, ha1, ha2, ha3, ea, eA⟩ := limbs4 A hA
  rw [ea]
  by_cases h3 : a3 < 1152921504606846976
  · have hd : decide ((a3 : Int) < nl 1152921504606846976) = true := decide_eq_true (by unfold nl; omega)
    refine run_drive 12 ?_
    simp only [go_sem, v28, v28_0, v28_1, hd]
    refine run_cond_t rfl ?_
    refine run_drive 60 ?_
    simp only [go_sem, v28_2]
    refine run_ret_drop Tryd.func28 res28 [] (lw (A % ell)) [] rfl (by simp) trivial (by simp [uniq]) ?_ hQ
    have : A % ell = A := Nat.mod_eq_of_lt (by unfold ell; omega)
    rw [this, ea]
    simp only [go_sem, rr28, ren, rens]
  · have hd : decide ((a3 : Int) < nl 1152921504606846976) = false := decide_eq_false (by unfold nl; omega)
    refine run_drive 12 ?_
    simp only [go_sem, v28, v28_0, v28_1, hd]
    refine run_cond_f rfl ?_
    refine run_drive 60 ?_
    simp only [go_sem, v28_0, v28_1, v28_2, v28_3, v28_4, v28_5, v28_6, v28_7, v28_8, v28_9, v28_10, v28_11, v28_12, v28_13, v28_14, v28, hG, tbl]
    have hq : r64 a3 60 = a3 / 1152921504606846976 := rfl
    have hm : a64 a3 1152921504606846975 = a3 % 1152921504606846976 := a64_mask a3 60 (by decide) ha3 _ rfl
    rw [hq, hm]
    have hq15 : a3 / 1152921504606846976 ≤ 15 := by omega
    have hml : a3 % 1152921504606846976 < 1152921504606846976 := Nat.mod_lt _ (by decide)
    have hsplit : a3 = a3 % 1152921504606846976 + 1152921504606846976 * (a3 / 1152921504606846976) := (Nat.mod_add_div _ _).symm
    generalize a3 / 1152921504606846976 = q at *
    generalize a3 % 1152921504606846976 = l3 at *
    refine run_call' rfl ?_
    simp only [go_sem, calV]
    refine mul64_c q 6346243789798364141 (by omega) (by decide) _ rfl ?_
    intro p1 p0 hp1 hp0 ep
    refine run_drive 60 ?_
    simp only [go_sem, tbl, hG]
    refine run_call' rfl ?_
    simp only [go_sem, calV]
    refine mul64_c q 1503914060200516822 (by omega) (by decide) _ rfl ?_
    intro s1 s0 hs1 hs0 es
    refine run_drive 60 ?_
    simp only [go_sem, tbl, hG]
    refine run_call' rfl ?_
    simp only [go_sem, calV]
    refine add64 s0 p1 0 _ rfl (by decide) hs0 hp1 ?_
    intro t1 k1 ht1 hk1 et
    refine run_drive 60 ?_
    simp only [go_sem, tbl, hG]
    have hw : w64 (s1 + k1) = s1 + k1 := Nat.mod_eq_of_lt (by omega)
    rw [hw]
    refine run_call' rfl ?_
    simp only [go_sem, calV]
    refine minus_c a0 a1 a2 l3 p0 t1 (s1 + k1) 0 ha0 ha1 ha2 (by omega) hp0 ht1 (by omega) (by omega) ?_
    intro d0 d1 d2 d3 k hd0 hd1 hd2 hd3 hk ed
    refine run_drive 60 ?_
    simp only [go_sem, tbl, hG]
    refine run_call' rfl ?_
    simp only [go_sem, calV]
    refine plus_c d0 d1 d2 d3 6346243789798364141 1503914060200516822 0 1152921504606846976 hd0 hd1 hd2 hd3 (by decide) (by decide) (by decide) (by decide) ?_
    intro e0 e1 e2 e3 k' he0 he1 he2 he3 hk' ee
    refine run_drive 60 ?_
    simp only [go_sem, tbl, hG]
    refine run_call' rfl ?_
    simp only [go_sem, calV]
    refine choose_c e0 e1 e2 e3 d0 d1 d2 d3 he0 he1 he2 he3 hd0 hd1 hd2 hd3 k hk ?_
    intro f0 f1 f2 f3 hf0 hf1 hf2 hf3 hfe hfd
    refine run_drive 60 ?_
    simp only [go_sem, tbl, hG]
    refine run_call' rfl ?_
    simp only [go_sem, calV]
    refine lower_c hG f0 f1 f2 f3 hf0 hf1 hf2 hf3 ?_
    intro g0 g1 g2 g3 hg0 hg1 hg2 hg3 eg
    refine run_drive 60 ?_
    simp only [go_sem, tbl, hG]
    refine run_ret_drop Tryd.func28 res28 [] (lw (A % ell)) [] rfl (by simp) trivial (by simp [uniq]) ?_ hQ
    have key : A % ell = (g0 + 18446744073709551616 * g1 + 340282366920938463463374607431768211456 * g2 + 6277101735386680763835789423207666416102355444464034512896 * g3) := by
      have hf : (f0 + 18446744073709551616 * f1 + 340282366920938463463374607431768211456 * f2 + 6277101735386680763835789423207666416102355444464034512896 * f3) < 7237005577332262213973186563042994240857116359379907606001950938285454250989 ∧ (A = (f0 + 18446744073709551616 * f1 + 340282366920938463463374607431768211456 * f2 + 6277101735386680763835789423207666416102355444464034512896 * f3) + 7237005577332262213973186563042994240857116359379907606001950938285454250989 * q ∨ A + 7237005577332262213973186563042994240857116359379907606001950938285454250989 = (f0 + 18446744073709551616 * f1 + 340282366920938463463374607431768211456 * f2 + 6277101735386680763835789423207666416102355444464034512896 * f3) + 7237005577332262213973186563042994240857116359379907606001950938285454250989 * q) := by
        have : k = 0 ∨ k = 1 := by omega
        rcases this with rfl | rfl
        · have := hfd rfl
          omega
        · have := hfe rfl
          omega
      have hn : ¬ ell ≤ (f0 + 18446744073709551616 * f1 + 340282366920938463463374607431768211456 * f2 + 6277101735386680763835789423207666416102355444464034512896 * f3) := by unfold ell; omega
      rw [eg, if_neg hn]
      unfold ell
      omega
    rw [key, lw_of hg0 hg1 hg2 hg3]
    simp only [go_sem, rr28, ren, rens]
end
end Go.Vs.Tryd
namespace Go.Vs
theorem z_zero {s0 m d0 z0 : Nat} (hm : m = s0 * 15183074304973897243 % 18446744073709551616) (f0 : m * 6346243789798364141 + s0 + 0 = 18446744073709551616 * d0 + z0) (hz0 : z0 < 18446744073709551616) : z0 = 0 := by omega
theorem sum_eq {p0 p1 p2 p3 t0 t1 t2 t3 s0 s1 s2 s3 s4 c0 c1 c2 c3 k4 z0 z1 z2 z3 z4 d0 d1 d2 d3 k5 m : Nat} (e0 : p0 + t0 + 0 = 18446744073709551616 * c0 + s0) (e1 : p1 + t1 + c0 = 18446744073709551616 * c1 + s1) (e2 : p2 + t2 + c1 = 18446744073709551616 * c2 + s2) (e3 : p3 + t3 + c2 = 18446744073709551616 * c3 + s3) (e4 : 0 + c3 + 0 = 18446744073709551616 * k4 + s4)
    (f0 : m * 6346243789798364141 + s0 + 0 = 18446744073709551616 * d0 + z0) (f1 : m * 1503914060200516822 + s1 + d0 = 18446744073709551616 * d1 + z1) (f2 : m * 0 + s2 + d1 = 18446744073709551616 * d2 + z2) (f3 : m * 1152921504606846976 + s3 + d2 = 18446744073709551616 * d3 + z3) (f4 : s4 + d3 + 0 = 18446744073709551616 * k5 + z4) (hz : z0 = 0) :
    18446744073709551616 * ((z1 + 18446744073709551616 * z2 + 340282366920938463463374607431768211456 * z3 + 6277101735386680763835789423207666416102355444464034512896 * z4) + 115792089237316195423570985008687907853269984665640564039457584007913129639936 * (k4 + k5)) = (t0 + 18446744073709551616 * t1 + 340282366920938463463374607431768211456 * t2 + 6277101735386680763835789423207666416102355444464034512896 * t3) + (p0 + 18446744073709551616 * p1 + 340282366920938463463374607431768211456 * p2 + 6277101735386680763835789423207666416102355444464034512896 * p3) + m * 7237005577332262213973186563042994240857116359379907606001950938285454250989 := by omega
theorem round_law (a0 a1 a2 a3 b t0 t1 t2 t3 s0 s1 s2 s3 s4 c0 c1 c2 c3 k4 z0 z1 z2 z3 z4 d0 d1 d2 d3 k5 : Nat) (hb : b < 18446744073709551616) (hA : (a0 + 18446744073709551616 * a1 + 340282366920938463463374607431768211456 * a2 + 6277101735386680763835789423207666416102355444464034512896 * a3) < 7237005577332262213973186563042994240857116359379907606001950938285454250989) (hT : (t0 + 18446744073709551616 * t1 + 340282366920938463463374607431768211456 * t2 + 6277101735386680763835789423207666416102355444464034512896 * t3) < 2 * 7237005577332262213973186563042994240857116359379907606001950938285454250989)
    (hs0 : s0 < 18446744073709551616) (hz0 : z0 < 18446744073709551616) (hz1 : z1 < 18446744073709551616) (hz2 : z2 < 18446744073709551616) (hz3 : z3 < 18446744073709551616) (hz4 : z4 < 18446744073709551616)
    (e0 : a0 * b + t0 + 0 = 18446744073709551616 * c0 + s0) (e1 : a1 * b + t1 + c0 = 18446744073709551616 * c1 + s1) (e2 : a2 * b + t2 + c1 = 18446744073709551616 * c2 + s2) (e3 : a3 * b + t3 + c2 = 18446744073709551616 * c3 + s3) (e4 : 0 + c3 + 0 = 18446744073709551616 * k4 + s4)
    (f0 : w64 (s0 * 15183074304973897243) * 6346243789798364141 + s0 + 0 = 18446744073709551616 * d0 + z0) (f1 : w64 (s0 * 15183074304973897243) * 1503914060200516822 + s1 + d0 = 18446744073709551616 * d1 + z1) (f2 : w64 (s0 * 15183074304973897243) * 0 + s2 + d1 = 18446744073709551616 * d2 + z2) (f3 : w64 (s0 * 15183074304973897243) * 1152921504606846976 + s3 + d2 = 18446744073709551616 * d3 + z3) (f4 : s4 + d3 + 0 = 18446744073709551616 * k5 + z4) :
    w64 (k4 + k5) = 0 ∧ (z1 + 18446744073709551616 * z2 + 340282366920938463463374607431768211456 * z3 + 6277101735386680763835789423207666416102355444464034512896 * z4) < 2 * 7237005577332262213973186563042994240857116359379907606001950938285454250989 ∧ ∃ m : Nat, 18446744073709551616 * (z1 + 18446744073709551616 * z2 + 340282366920938463463374607431768211456 * z3 + 6277101735386680763835789423207666416102355444464034512896 * z4) = (t0 + 18446744073709551616 * t1 + 340282366920938463463374607431768211456 * t2 + 6277101735386680763835789423207666416102355444464034512896 * t3) + (a0 + 18446744073709551616 * a1 + 340282366920938463463374607431768211456 * a2 + 6277101735386680763835789423207666416102355444464034512896 * a3) * b + m * 7237005577332262213973186563042994240857116359379907606001950938285454250989 := by
  have hm : w64 (s0 * 15183074304973897243) = s0 * 15183074304973897243 % 18446744073709551616 := rfl
  have hml : w64 (s0 * 15183074304973897243) < 18446744073709551616 := Nat.mod_lt _ (by decide)
  have hz : z0 = 0 := z_zero hm f0 hz0
  have hab : (a0 + 18446744073709551616 * a1 + 340282366920938463463374607431768211456 * a2 + 6277101735386680763835789423207666416102355444464034512896 * a3) * b = a0 * b + 18446744073709551616 * (a1 * b) + 340282366920938463463374607431768211456 * (a2 * b) + 6277101735386680763835789423207666416102355444464034512896 * (a3 * b) := by grind
  have hbd2 : (a0 + 18446744073709551616 * a1 + 340282366920938463463374607431768211456 * a2 + 6277101735386680763835789423207666416102355444464034512896 * a3) * b ≤ (7237005577332262213973186563042994240857116359379907606001950938285454250989 - 1) * (18446744073709551616 - 1) := Nat.mul_le_mul (by clear e0 e1 e2 e3 e4 f0 f1 f2 f3 f4; omega) (by clear e0 e1 e2 e3 e4 f0 f1 f2 f3 f4; omega)
  generalize w64 (s0 * 15183074304973897243) = m at *
  have sum : 18446744073709551616 * ((z1 + 18446744073709551616 * z2 + 340282366920938463463374607431768211456 * z3 + 6277101735386680763835789423207666416102355444464034512896 * z4) + 115792089237316195423570985008687907853269984665640564039457584007913129639936 * (k4 + k5)) = (t0 + 18446744073709551616 * t1 + 340282366920938463463374607431768211456 * t2 + 6277101735386680763835789423207666416102355444464034512896 * t3) + (a0 + 18446744073709551616 * a1 + 340282366920938463463374607431768211456 * a2 + 6277101735386680763835789423207666416102355444464034512896 * a3) * b + m * 7237005577332262213973186563042994240857116359379907606001950938285454250989 := by
    rw [hab]
    exact sum_eq e0 e1 e2 e3 e4 f0 f1 f2 f3 f4 hz
  generalize (a0 + 18446744073709551616 * a1 + 340282366920938463463374607431768211456 * a2 + 6277101735386680763835789423207666416102355444464034512896 * a3) * b = P at *
  generalize (t0 + 18446744073709551616 * t1 + 340282366920938463463374607431768211456 * t2 + 6277101735386680763835789423207666416102355444464034512896 * t3) = T at *
  generalize hZ : (z1 + 18446744073709551616 * z2 + 340282366920938463463374607431768211456 * z3 + 6277101735386680763835789423207666416102355444464034512896 * z4) = Z at *
  clear e0 e1 e2 e3 e4 f0 f1 f2 f3 f4 hab
  have hk : k4 + k5 = 0 := by omega
  refine ⟨by rw [hk]; rfl, by omega, m, ?_⟩
  rw [hk] at sum
  omega
end Go.Vs
namespace Go.Vs.Tryd
open Go.Proofs
variable {G : Nat → List V}
set_option linter.unusedSimpArgs false
attribute [local go_sem_proc] Nat.reduceAdd Nat.reduceSub Nat.reduceLeDiff Nat.reduceMul Nat.reduceLT Nat.reduceEqDiff Int.reduceLT Int.reduceLE Int.reduceAdd Int.reduceSub Int.reduceMul Int.reduceToNat reduceIte reduceCtorEq Nat.reduceBEq
attribute [local go_sem] Option.isSome_some Option.isSome_none Kind.m Kind.w Kind.g look_ro look_rw look_grow lenO drive stepV exo expo evs fillV isNil nilKind eqV eqL optA optM sliceAtV ev kn V.known V.one ldc stc splice cellsOf asK asN asB asS asG asT appV srcV lenV setd wantV exitV rvs rv one List.length_cons List.length_nil List.cons_append List.nil_append List.append_nil List.replicate List.getD_cons_zero List.getD_cons_succ List.set_cons_zero List.set_cons_succ List.getElem?_cons_zero List.getElem?_cons_succ List.getElem?_nil List.take_succ_cons List.take_zero List.take_nil List.drop_succ_cons List.drop_zero List.drop_nil List.all_cons List.all_nil List.any_cons List.any_nil Bool.and_true Bool.true_and Bool.and_self Option.map_some Option.map_none Option.bind_some Option.some.injEq Nat.add_zero Nat.zero_add Int.toNat_zero Int.toNat_one Int.zero_add Int.add_zero if_true if_false ite_true ite_false and_true true_and and_self ne_eq not_false_eq_true not_true_eq_false decide_true decide_false Bool.false_eq_true Bool.not_true Bool.not_false beq_self_eq_true BEq.rfl Bool.not_eq_true Nat.le_refl Int.le_refl Nat.zero_le List.foldl List.map_cons List.map_nil Prod.mk.injEq Int.cast_ofNat_Int Int.zero_le_ofNat b_add_cc b_add_cl b_add_lc b_mul_cc b_mul_cl b_mul_lc b_sub_cc b_sub_cl b_sub_lc b_and_cc b_and_cl b_and_lc b_or_cc b_or_cl b_or_lc b_xor_cc b_xor_cl b_xor_lc b_andNot_cc b_andNot_cl b_andNot_lc b_shr_cc b_shr_cl b_shr_lc b_shl_cc b_shl_cl b_shl_lc b_lss b_leq b_gtr b_geq b_add_i b_sub_i b_mul_i beq_cc beq_cl beq_lc beq_ll b_quo_i b_rem_i neg_u64 wrap_i64 driveD stepD idsAt idOf maskH_nil restore_nil restore_mask List.filterMap_nil List.filterMap_cons VOp.looks VOp.makes exA
set_option maxRecDepth 100000
theorem add64_c (x y c : Nat) (hc : c ≤ 1) (hx : x < 18446744073709551616) (hy : y < 18446744073709551616) (xi : Int) (hxi : xi = (x : Int)) (ci : Int) (hci : ci = (c : Int)) {h : Heap} {R : V → Heap → Prop} (hq : ∀ d b : Nat, d < 18446744073709551616 → b ≤ 1 → x + y + c = 18446744073709551616 * b + d → R (.tup [.int .u64 (d : Int), .int .u64 (b : Int)]) h) : VCall Tryd.prog G 41 [.int .u64 xi, .int .u64 (y : Int), .int .u64 ci] h R := by
  subst hxi; exact add64 x y c ci hci hc hx hy hq
theorem mont_law {A b0 b1 b2 b3 m0 m1 m2 m3 Z1 Z2 Z3 Z4 R : Nat} (h0 : 18446744073709551616 * Z1 = (0 + 18446744073709551616 * 0 + 340282366920938463463374607431768211456 * 0 + 6277101735386680763835789423207666416102355444464034512896 * 0) + A * b0 + m0 * 7237005577332262213973186563042994240857116359379907606001950938285454250989) (h1 : 18446744073709551616 * Z2 = Z1 + A * b1 + m1 * 7237005577332262213973186563042994240857116359379907606001950938285454250989) (h2 : 18446744073709551616 * Z3 = Z2 + A * b2 + m2 * 7237005577332262213973186563042994240857116359379907606001950938285454250989) (h3 : 18446744073709551616 * Z4 = Z3 + A * b3 + m3 * 7237005577332262213973186563042994240857116359379907606001950938285454250989) (hR : R = Z4 ∨ R + ell = Z4) :
    ∃ x y : Nat, 115792089237316195423570985008687907853269984665640564039457584007913129639936 * R + ell * x = A * (b0 + 18446744073709551616 * b1 + 340282366920938463463374607431768211456 * b2 + 6277101735386680763835789423207666416102355444464034512896 * b3) + ell * y := by
  have hb : A * (b0 + 18446744073709551616 * b1 + 340282366920938463463374607431768211456 * b2 + 6277101735386680763835789423207666416102355444464034512896 * b3) = A * b0 + 18446744073709551616 * (A * b1) + 340282366920938463463374607431768211456 * (A * b2) + 6277101735386680763835789423207666416102355444464034512896 * (A * b3) := by grind
  have hell : ell = 7237005577332262213973186563042994240857116359379907606001950938285454250989 := rfl
  rw [hb]
  generalize A * b0 = p0 at *
  generalize A * b1 = p1 at *
  generalize A * b2 = p2 at *
  generalize A * b3 = p3 at *
  have e : 115792089237316195423570985008687907853269984665640564039457584007913129639936 * Z4 = p0 + 18446744073709551616 * p1 + 340282366920938463463374607431768211456 * p2 + 6277101735386680763835789423207666416102355444464034512896 * p3 + ell * (m0 + 18446744073709551616 * m1 + 340282366920938463463374607431768211456 * m2 + 6277101735386680763835789423207666416102355444464034512896 * m3) := by rw [hell]; omega
  rcases hR with rfl | hR
  · exact ⟨0, _, e⟩
  · exact ⟨115792089237316195423570985008687907853269984665640564039457584007913129639936, _, by rw [← e, ← hR]; rw [hell]; omega⟩
set_option maxHeartbeats 4000000
theorem product0 (hG : G 0 = tbl) (a0 a1 a2 a3 b0 b1 b2 b3 : Nat) (ha0 : a0 < 18446744073709551616) (ha1 : a1 < 18446744073709551616) (ha2 : a2 < 18446744073709551616) (ha3 : a3 < 18446744073709551616) (hb0 : b0 < 18446744073709551616) (hb1 : b1 < 18446744073709551616) (hb2 : b2 < 18446744073709551616) (hb3 : b3 < 18446744073709551616) (hA : (a0 + 18446744073709551616 * a1 + 340282366920938463463374607431768211456 * a2 + 6277101735386680763835789423207666416102355444464034512896 * a3) < 7237005577332262213973186563042994240857116359379907606001950938285454250989) (Q : V → Heap → Prop) (hQ : ∀ R : Nat, R < ell → (∃ x y : Nat, 115792089237316195423570985008687907853269984665640564039457584007913129639936 * R + ell * x = (a0 + 18446744073709551616 * a1 + 340282366920938463463374607431768211456 * a2 + 6277101735386680763835789423207666416102355444464034512896 * a3) * (b0 + 18446744073709551616 * b1 + 340282366920938463463374607431768211456 * b2 + 6277101735386680763835789423207666416102355444464034512896 * b3) + ell * y) → Q (lw R) []) : VCall Tryd.prog G 27 [.agg [.int .u64 (a0 : Int), .int .u64 (a1 : Int), .int .u64 (a2 : Int), .int .u64 (a3 : Int)], .agg [.int .u64 (b0 : Int), .int .u64 (b1 : Int), .int .u64 (b2 : Int), .int .u64 (b3 : Int)]] [] Q := by
  refine vcall_body Tryd.func27 nm27 code27 nt27 ?_
  refine run_drive 40 ?_
  simp only [go_sem, v27, v27_0, v27_1, v27_2, v27_30]
  refine run_loop ?_
  refine run_drive 40 ?_
  simp only [go_sem, v27_29, v27_3, v27_27, v27_4, v27_5, v27_6, v27_13]
  refine run_loop ?_
  refine run_drive 40 ?_
  simp only [go_sem, v27_12, v27_7, v27_8, v27_10]
  refine run_drw (by kernel_rfl) ?_
  refine drun_drive 30 (p := (_, _)) ?_
  simp only [go_sem, v27_9]
  refine drun_call' ?_
  simp only [go_sem, calV]
  refine into' _ _ _ _ ha0 hb0 (by decide : (0 : Nat) < 18446744073709551616) (by decide : (0 : Nat) < 18446744073709551616) _ rfl _ rfl ?_
  intro s00 c00 hs00 hc00 e00
  refine drun_drive 20 (p := (_, _)) ?_
  simp only [go_sem]
  refine drun_end ?_
  refine run_drive 40 ?_
  simp only [go_sem, v27_11]
  refine run_loop ?_
  refine run_drive 40 ?_
  simp only [go_sem, v27_12, v27_7, v27_8, v27_10]
  refine run_drw (by kernel_rfl) ?_
  refine drun_drive 30 (p := (_, _)) ?_
  simp only [go_sem, v27_9]
  refine drun_call' ?_
  simp only [go_sem, calV]
  refine into' _ _ _ _ ha1 hb0 (by decide : (0 : Nat) < 18446744073709551616) hc00 _ rfl _ rfl ?_
  intro s01 c01 hs01 hc01 e01
  refine drun_drive 20 (p := (_, _)) ?_
  simp only [go_sem]
  refine drun_end ?_
  refine run_drive 40 ?_
  simp only [go_sem, v27_11]
  refine run_loop ?_
  refine run_drive 40 ?_
  simp only [go_sem, v27_12, v27_7, v27_8, v27_10]
  refine run_drw (by kernel_rfl) ?_
  refine drun_drive 30 (p := (_, _)) ?_
  simp only [go_sem, v27_9]
  refine drun_call' ?_
  simp only [go_sem, calV]
  refine into' _ _ _ _ ha2 hb0 (by decide : (0 : Nat) < 18446744073709551616) hc01 _ rfl _ rfl ?_
  intro s02 c02 hs02 hc02 e02
  refine drun_drive 20 (p := (_, _)) ?_
  simp only [go_sem]
  refine drun_end ?_
  refine run_drive 40 ?_
  simp only [go_sem, v27_11]
  refine run_loop ?_
  refine run_drive 40 ?_
  simp only [go_sem, v27_12, v27_7, v27_8, v27_10]
  refine run_drw (by kernel_rfl) ?_
  refine drun_drive 30 (p := (_, _)) ?_
  simp only [go_sem, v27_9]
  refine drun_call' ?_
  simp only [go_sem, calV]
  refine into' _ _ _ _ ha3 hb0 (by decide : (0 : Nat) < 18446744073709551616) hc02 _ rfl _ rfl ?_
  intro s03 c03 hs03 hc03 e03
  refine drun_drive 20 (p := (_, _)) ?_
  simp only [go_sem]
  refine drun_end ?_
  refine run_drive 40 ?_
  simp only [go_sem, v27_11]
  refine run_loop ?_
  refine run_drive 40 ?_
  simp only [go_sem, v27_12, v27_7, v27_14]
  refine run_call' rfl ?_
  simp only [go_sem, calV]
  refine add64_c 0 c03 0 (by decide) (by decide) hc03 _ rfl _ rfl ?_
  intro s04 k04 hs04 hk04 e04
  refine run_drive 40 ?_
  simp only [go_sem, v27_15, v27_16, v27_17, hG, tbl]
  refine run_call' rfl ?_
  simp only [go_sem, calV]
  refine into' (w64 (s00 * 15183074304973897243)) 6346243789798364141 s00 0 (Nat.mod_lt _ (by decide)) (by decide) hs00 (by decide) _ rfl _ rfl ?_
  intro z00 d00 hz00 hd00 f00
  refine run_drive 40 ?_
  simp only [go_sem, v27_18, v27_24]
  refine run_loop ?_
  refine run_drive 40 ?_
  simp only [go_sem, v27_23, v27_19, v27_21]
  refine run_drw (by kernel_rfl) ?_
  refine drun_drive 30 (p := (_, _)) ?_
  simp only [go_sem, v27_20, hG, tbl]
  refine drun_call' ?_
  simp only [go_sem, calV]
  refine into' (w64 (s00 * 15183074304973897243)) 1503914060200516822 s01 d00 (Nat.mod_lt _ (by decide)) (by decide) hs01 hd00 _ rfl _ rfl ?_
  intro z01 d01 hz01 hd01 f01
  refine drun_drive 20 (p := (_, _)) ?_
  simp only [go_sem]
  refine drun_end ?_
  refine run_drive 40 ?_
  simp only [go_sem, v27_22]
  refine run_loop ?_
  refine run_drive 40 ?_
  simp only [go_sem, v27_23, v27_19, v27_21]
  refine run_drw (by kernel_rfl) ?_
  refine drun_drive 30 (p := (_, _)) ?_
  simp only [go_sem, v27_20, hG, tbl]
  refine drun_call' ?_
  simp only [go_sem, calV]
  refine into' (w64 (s00 * 15183074304973897243)) 0 s02 d01 (Nat.mod_lt _ (by decide)) (by decide) hs02 hd01 _ rfl _ rfl ?_
  intro z02 d02 hz02 hd02 f02
  refine drun_drive 20 (p := (_, _)) ?_
  simp only [go_sem]
  refine drun_end ?_
  refine run_drive 40 ?_
  simp only [go_sem, v27_22]
  refine run_loop ?_
  refine run_drive 40 ?_
  simp only [go_sem, v27_23, v27_19, v27_21]
  refine run_drw (by kernel_rfl) ?_
  refine drun_drive 30 (p := (_, _)) ?_
  simp only [go_sem, v27_20, hG, tbl]
  refine drun_call' ?_
  simp only [go_sem, calV]
  refine into' (w64 (s00 * 15183074304973897243)) 1152921504606846976 s03 d02 (Nat.mod_lt _ (by decide)) (by decide) hs03 hd02 _ rfl _ rfl ?_
  intro z03 d03 hz03 hd03 f03
  refine drun_drive 20 (p := (_, _)) ?_
  simp only [go_sem]
  refine drun_end ?_
  refine run_drive 40 ?_
  simp only [go_sem, v27_22]
  refine run_loop ?_
  refine run_drive 40 ?_
  simp only [go_sem, v27_23, v27_19, v27_25]
  refine run_call' rfl ?_
  simp only [go_sem, calV]
  refine add64_c s04 d03 0 (by decide) hs04 hd03 _ rfl _ rfl ?_
  intro z04 k05 hz04 hk05 f04
  refine run_drive 40 ?_
  simp only [go_sem, v27_26, v27_28]
  obtain ⟨w0, T0, m0, M0⟩ := round_law a0 a1 a2 a3 b0 0 0 0 0 s00 s01 s02 s03 s04 c00 c01 c02 c03 k04 z00 z01 z02 z03 z04 d00 d01 d02 d03 k05 hb0 hA (by decide) hs00 hz00 hz01 hz02 hz03 hz04 e00 e01 e02 e03 e04 f00 f01 f02 f03 f04
  rw [w0]
  clear e00 e01 e02 e03 e04 f00 f01 f02 f03 f04 w0
  refine run_loop ?_
  refine run_drive 40 ?_
  simp only [go_sem, v27_29, v27_3, v27_27, v27_4, v27_5, v27_6, v27_13]
  refine run_loop ?_
  refine run_drive 40 ?_
  simp only [go_sem, v27_12, v27_7, v27_8, v27_10]
  refine run_drw (by kernel_rfl) ?_
  refine drun_drive 30 (p := (_, _)) ?_
  simp only [go_sem, v27_9]
  refine drun_call' ?_
  simp only [go_sem, calV]
  refine into' _ _ _ _ ha0 hb1 hz01 (by decide : (0 : Nat) < 18446744073709551616) _ rfl _ rfl ?_
  intro s10 c10 hs10 hc10 e10
  refine drun_drive 20 (p := (_, _)) ?_
  simp only [go_sem]
  refine drun_end ?_
  refine run_drive 40 ?_
  simp only [go_sem, v27_11]
  refine run_loop ?_
  refine run_drive 40 ?_
  simp only [go_sem, v27_12, v27_7, v27_8, v27_10]
  refine run_drw (by kernel_rfl) ?_
  refine drun_drive 30 (p := (_, _)) ?_
  simp only [go_sem, v27_9]
  refine drun_call' ?_
  simp only [go_sem, calV]
  refine into' _ _ _ _ ha1 hb1 hz02 hc10 _ rfl _ rfl ?_
  intro s11 c11 hs11 hc11 e11
  refine drun_drive 20 (p := (_, _)) ?_
  simp only [go_sem]
  refine drun_end ?_
  refine run_drive 40 ?_
  simp only [go_sem, v27_11]
  refine run_loop ?_
  refine run_drive 40 ?_
  simp only [go_sem, v27_12, v27_7, v27_8, v27_10]
  refine run_drw (by kernel_rfl) ?_
  refine drun_drive 30 (p := (_, _)) ?_
  simp only [go_sem, v27_9]
  refine drun_call' ?_
  simp only [go_sem, calV]
  refine into' _ _ _ _ ha2 hb1 hz03 hc11 _ rfl _ rfl ?_
  intro s12 c12 hs12 hc12 e12
  refine drun_drive 20 (p := (_, _)) ?_
  simp only [go_sem]
  refine drun_end ?_
  refine run_drive 40 ?_
  simp only [go_sem, v27_11]
  refine run_loop ?_
  refine run_drive 40 ?_
  simp only [go_sem, v27_12, v27_7, v27_8, v27_10]
  refine run_drw (by kernel_rfl) ?_
  refine drun_drive 30 (p := (_, _)) ?_
  simp only [go_sem, v27_9]
  refine drun_call' ?_
  simp only [go_sem, calV]
  refine into' _ _ _ _ ha3 hb1 hz04 hc12 _ rfl _ rfl ?_
  intro s13 c13 hs13 hc13 e13
  refine drun_drive 20 (p := (_, _)) ?_
  simp only [go_sem]
  refine drun_end ?_
  refine run_drive 40 ?_
  simp only [go_sem, v27_11]
  refine run_loop ?_
  refine run_drive 40 ?_
  simp only [go_sem, v27_12, v27_7, v27_14]
  refine run_call' rfl ?_
  simp only [go_sem, calV]
  refine add64_c 0 c13 0 (by decide) (by decide) hc13 _ rfl _ rfl ?_
  intro s14 k14 hs14 hk14 e14
  refine run_drive 40 ?_
  simp only [go_sem, v27_15, v27_16, v27_17, hG, tbl]
  refine run_call' rfl ?_
  simp only [go_sem, calV]
  refine into' (w64 (s10 * 15183074304973897243)) 6346243789798364141 s10 0 (Nat.mod_lt _ (by decide)) (by decide) hs10 (by decide) _ rfl _ rfl ?_
  intro z10 d10 hz10 hd10 f10
  refine run_drive 40 ?_
  simp only [go_sem, v27_18, v27_24]
  refine run_loop ?_
  refine run_drive 40 ?_
  simp only [go_sem, v27_23, v27_19, v27_21]
  refine run_drw (by kernel_rfl) ?_
  refine drun_drive 30 (p := (_, _)) ?_
  simp only [go_sem, v27_20, hG, tbl]
  refine drun_call' ?_
  simp only [go_sem, calV]
  refine into' (w64 (s10 * 15183074304973897243)) 1503914060200516822 s11 d10 (Nat.mod_lt _ (by decide)) (by decide) hs11 hd10 _ rfl _ rfl ?_
  intro z11 d11 hz11 hd11 f11
  refine drun_drive 20 (p := (_, _)) ?_
  simp only [go_sem]
  refine drun_end ?_
  refine run_drive 40 ?_
  simp only [go_sem, v27_22]
  refine run_loop ?_
  refine run_drive 40 ?_
  simp only [go_sem, v27_23, v27_19, v27_21]
  refine run_drw (by kernel_rfl) ?_
  refine drun_drive 30 (p := (_, _)) ?_
  simp only [go_sem, v27_20, hG, tbl]
  refine drun_call' ?_
  simp only [go_sem, calV]
  refine into' (w64 (s10 * 15183074304973897243)) 0 s12 d11 (Nat.mod_lt _ (by decide)) (by decide) hs12 hd11 _ rfl _ rfl ?_
  intro z12 d12 hz12 hd12 f12
  refine drun_drive 20 (p := (_, _)) ?_
  simp only [go_sem]
  refine drun_end ?_
  refine run_drive 40 ?_
  simp only [go_sem, v27_22]
  refine run_loop ?_
  refine run_drive 40 ?_
  simp only [go_sem, v27_23, v27_19, v27_21]
  refine run_drw (by kernel_rfl) ?_
  refine drun_drive 30 (p := (_, _)) ?_
  simp only [go_sem, v27_20, hG, tbl]
  refine drun_call' ?_
  simp only [go_sem, calV]
  refine into' (w64 (s10 * 15183074304973897243)) 1152921504606846976 s13 d12 (Nat.mod_lt _ (by decide)) (by decide) hs13 hd12 _ rfl _ rfl ?_
  intro z13 d13 hz13 hd13 f13
  refine drun_drive 20 (p := (_, _)) ?_
  simp only [go_sem]
  refine drun_end ?_
  refine run_drive 40 ?_
  simp only [go_sem, v27_22]
  refine run_loop ?_
  refine run_drive 40 ?_
  simp only [go_sem, v27_23, v27_19, v27_25]
  refine run_call' rfl ?_
  simp only [go_sem, calV]
  refine add64_c s14 d13 0 (by decide) hs14 hd13 _ rfl _ rfl ?_
  intro z14 k15 hz14 hk15 f14
  refine run_drive 40 ?_
  simp only [go_sem, v27_26, v27_28]
  obtain ⟨w1, T1, m1, M1⟩ := round_law a0 a1 a2 a3 b1 z01 z02 z03 z04 s10 s11 s12 s13 s14 c10 c11 c12 c13 k14 z10 z11 z12 z13 z14 d10 d11 d12 d13 k15 hb1 hA T0 hs10 hz10 hz11 hz12 hz13 hz14 e10 e11 e12 e13 e14 f10 f11 f12 f13 f14
  rw [w1]
  clear e10 e11 e12 e13 e14 f10 f11 f12 f13 f14 w1
  refine run_loop ?_
  refine run_drive 40 ?_
  simp only [go_sem, v27_29, v27_3, v27_27, v27_4, v27_5, v27_6, v27_13]
  refine run_loop ?_
  refine run_drive 40 ?_
  simp only [go_sem, v27_12, v27_7, v27_8, v27_10]
  refine run_drw (by kernel_rfl) ?_
  refine drun_drive 30 (p := (_, _)) ?_
  simp only [go_sem, v27_9]
  refine drun_call' ?_
  simp only [go_sem, calV]
  refine into' _ _ _ _ ha0 hb2 hz11 (by decide : (0 : Nat) < 18446744073709551616) _ rfl _ rfl ?_
  intro s20 c20 hs20 hc20 e20
  refine drun_drive 20 (p := (_, _)) ?_
  simp only [go_sem]
  refine drun_end ?_
  refine run_drive 40 ?_
  simp only [go_sem, v27_11]
  refine run_loop ?_
  refine run_drive 40 ?_
  simp only [go_sem, v27_12, v27_7, v27_8, v27_10]
  refine run_drw (by kernel_rfl) ?_
  refine drun_drive 30 (p := (_, _)) ?_
  simp only [go_sem, v27_9]
  refine drun_call' ?_
  simp only [go_sem, calV]
  refine into' _ _ _ _ ha1 hb2 hz12 hc20 _ rfl _ rfl ?_
  intro s21 c21 hs21 hc21 e21
  refine drun_drive 20 (p := (_, _)) ?_
  simp only [go_sem]
  refine drun_end ?_
  refine run_drive 40 ?_
  simp only [go_sem, v27_11]
  refine run_loop ?_
  refine run_drive 40 ?_
  simp only [go_sem, v27_12, v27_7, v27_8, v27_10]
  refine run_drw (by kernel_rfl) ?_
  refine drun_drive 30 (p := (_, _)) ?_
  simp only [go_sem, v27_9]
  refine drun_call' ?_
  simp only [go_sem, calV]
  refine into' _ _ _ _ ha2 hb2 hz13 hc21 _ rfl _ rfl ?_
  intro s22 c22 hs22 hc22 e22
  refine drun_drive 20 (p := (_, _)) ?_
  simp only [go_sem]
  refine drun_end ?_
  refine run_drive 40 ?_
  simp only [go_sem, v27_11]
  refine run_loop ?_
  refine run_drive 40 ?_
  simp only [go_sem, v27_12, v27_7, v27_8, v27_10]
  refine run_drw (by kernel_rfl) ?_
  refine drun_drive 30 (p := (_, _)) ?_
  simp only [go_sem, v27_9]
  refine drun_call' ?_
  simp only [go_sem, calV]
  refine into' _ _ _ _ ha3 hb2 hz14 hc22 _ rfl _ rfl ?_
  intro s23 c23 hs23 hc23 e23
  refine drun_drive 20 (p := (_, _)) ?_
  simp only [go_sem]
  refine drun_end ?_
  refine run_drive 40 ?_
  simp only [go_sem, v27_11]
  refine run_loop ?_
  refine run_drive 40 ?_
  simp only [go_sem, v27_12, v27_7, v27_14]
  refine run_call' rfl ?_
  simp only [go_sem, calV]
  refine add64_c 0 c23 0 (by decide) (by decide) hc23 _ rfl _ rfl ?_
  intro s24 k24 hs24 hk24 e24
  refine run_drive 40 ?_
  simp only [go_sem, v27_15, v27_16, v27_17, hG, tbl]
  refine run_call' rfl ?_
  simp only [go_sem, calV]
  refine into' (w64 (s20 * 15183074304973897243)) 6346243789798364141 s20 0 (Nat.mod_lt _ (by decide)) (by decide) hs20 (by decide) _ rfl _ rfl ?_
  intro z20 d20 hz20 hd20 f20
  refine run_drive 40 ?_
  simp only [go_sem, v27_18, v27_24]
  refine run_loop ?_
  refine run_drive 40 ?_
  simp only [go_sem, v27_23, v27_19, v27_21]
  refine run_drw (by kernel_rfl) ?_
  refine drun_drive 30 (p := (_, _)) ?_
  simp only [go_sem, v27_20, hG, tbl]
  refine drun_call' ?_
  simp only [go_sem, calV]
  refine into' (w64 (s20 * 15183074304973897243)) 1503914060200516822 s21 d20 (Nat.mod_lt _ (by decide)) (by decide) hs21 hd20 _ rfl _ rfl ?_
  intro z21 d21 hz21 hd21 f21
  refine drun_drive 20 (p := (_, _)) ?_
  simp only [go_sem]
  refine drun_end ?_
  refine run_drive 40 ?_
  simp only [go_sem, v27_22]
  refine run_loop ?_
  refine run_drive 40 ?_
  simp only [go_sem, v27_23, v27_19, v27_21]
  refine run_drw (by kernel_rfl) ?_
  refine drun_drive 30 (p := (_, _)) ?_
  simp only [go_sem, v27_20, hG, tbl]
  refine drun_call' ?_
  simp only [go_sem, calV]
  refine into' (w64 (s20 * 15183074304973897243)) 0 s22 d21 (Nat.mod_lt _ (by decide)) (by decide) hs22 hd21 _ rfl _ rfl ?_
  intro z22 d22 hz22 hd22 f22
  refine drun_drive 20 (p := (_, _)) ?_
  simp only [go_sem]
  refine drun_end ?_
  refine run_drive 40 ?_
  simp only [go_sem, v27_22]
  refine run_loop ?_
  refine run_drive 40 ?_
  simp only [go_sem, v27_23, v27_19, v27_21]
  refine run_drw (by kernel_rfl) ?_
  refine drun_drive 30 (p := (_, _)) ?_
  simp only [go_sem, v27_20, hG, tbl]
  refine drun_call' ?_
  simp only [go_sem, calV]
  refine into' (w64 (s20 * 15183074304973897243)) 1152921504606846976 s23 d22 (Nat.mod_lt _ (by decide)) (by decide) hs23 hd22 _ rfl _ rfl ?_
  intro z23 d23 hz23 hd23 f23
  refine drun_drive 20 (p := (_, _)) ?_
  simp only [go_sem]
  refine drun_end ?_
  refine run_drive 40 ?_
  simp only [go_sem, v27_22]
  refine run_loop ?_
  refine run_drive 40 ?_
  simp only [go_sem, v27_23, v27_19, v27_25]
  refine run_call' rfl ?_
  simp only [go_sem, calV]
  refine add64_c s24 d23 0 (by decide) hs24 hd23 _ rfl _ rfl ?_
  intro z24 k25 hz24 hk25 f24
  refine run_drive 40 ?_
  simp only [go_sem, v27_26, v27_28]
  obtain ⟨w2, T2, m2, M2⟩ := round_law a0 a1 a2 a3 b2 z11 z12 z13 z14 s20 s21 s22 s23 s24 c20 c21 c22 c23 k24 z20 z21 z22 z23 z24 d20 d21 d22 d23 k25 hb2 hA T1 hs20 hz20 hz21 hz22 hz23 hz24 e20 e21 e22 e23 e24 f20 f21 f22 f23 f24
  rw [w2]
  clear e20 e21 e22 e23 e24 f20 f21 f22 f23 f24 w2
  refine run_loop ?_
  refine run_drive 40 ?_
  simp only [go_sem, v27_29, v27_3, v27_27, v27_4, v27_5, v27_6, v27_13]
  refine run_loop ?_
  refine run_drive 40 ?_
  simp only [go_sem, v27_12, v27_7, v27_8, v27_10]
  refine run_drw (by kernel_rfl) ?_
  refine drun_drive 30 (p := (_, _)) ?_
  simp only [go_sem, v27_9]
  refine drun_call' ?_
  simp only [go_sem, calV]
  refine into' _ _ _ _ ha0 hb3 hz21 (by decide : (0 : Nat) < 18446744073709551616) _ rfl _ rfl ?_
  intro s30 c30 hs30 hc30 e30
  refine drun_drive 20 (p := (_, _)) ?_
  simp only [go_sem]
  refine drun_end ?_
  refine run_drive 40 ?_
  simp only [go_sem, v27_11]
  refine run_loop ?_
  refine run_drive 40 ?_
  simp only [go_sem, v27_12, v27_7, v27_8, v27_10]
  refine run_drw (by kernel_rfl) ?_
  refine drun_drive 30 (p := (_, _)) ?_
  simp only [go_sem, v27_9]
  refine drun_call' ?_
  simp only [go_sem, calV]
  refine into' _ _ _ _ ha1 hb3 hz22 hc30 _ rfl _ rfl ?_
  intro s31 c31 hs31 hc31 e31
  refine drun_drive 20 (p := (_, _)) ?_
  simp only [go_sem]
  refine drun_end ?_
  refine run_drive 40 ?_
  simp only [go_sem, v27_11]
  refine run_loop ?_
  refine run_drive 40 ?_
  simp only [go_sem, v27_12, v27_7, v27_8, v27_10]
  refine run_drw (by kernel_rfl) ?_
  refine drun_drive 30 (p := (_, _)) ?_
  simp only [go_sem, v27_9]
  refine drun_call' ?_
  simp only [go_sem, calV]
  refine into' _ _ _ _ ha2 hb3 hz23 hc31 _ rfl _ rfl ?_
  intro s32 c32 hs32 hc32 e32
  refine drun_drive 20 (p := (_, _)) ?_
  simp only [go_sem]
  refine drun_end ?_
  refine run_drive 40 ?_
  simp only [go_sem, v27_11]
  refine run_loop ?_
  refine run_drive 40 ?_
  simp only [go_sem, v27_12, v27_7, v27_8, v27_10]
  refine run_drw (by kernel_rfl) ?_
  refine drun_drive 30 (p := (_, _)) ?_
  simp only [go_sem, v27_9]
  refine drun_call' ?_
  simp only [go_sem, calV]
  refine into' _ _ _ _ ha3 hb3 hz24 hc32 _ rfl _ rfl ?_
  intro s33 c33 hs33 hc33 e33
  refine drun_drive 20 (p := (_, _)) ?_
  simp only [go_sem]
  refine drun_end ?_
  refine run_drive 40 ?_
  simp only [go_sem, v27_11]
  refine run_loop ?_
  refine run_drive 40 ?_
  simp only [go_sem, v27_12, v27_7, v27_14]
  refine run_call' rfl ?_
  simp only [go_sem, calV]
  refine add64_c 0 c33 0 (by decide) (by decide) hc33 _ rfl _ rfl ?_
  intro s34 k34 hs34 hk34 e34
  refine run_drive 40 ?_
  simp only [go_sem, v27_15, v27_16, v27_17, hG, tbl]
  refine run_call' rfl ?_
  simp only [go_sem, calV]
  refine into' (w64 (s30 * 15183074304973897243)) 6346243789798364141 s30 0 (Nat.mod_lt _ (by decide)) (by decide) hs30 (by decide) _ rfl _ rfl ?_
  intro z30 d30 hz30 hd30 f30
  refine run_drive 40 ?_
  simp only [go_sem, v27_18, v27_24]
  refine run_loop ?_
  refine run_drive 40 ?_
  simp only [go_sem, v27_23, v27_19, v27_21]
  refine run_drw (by kernel_rfl) ?_
  refine drun_drive 30 (p := (_, _)) ?_
  simp only [go_sem, v27_20, hG, tbl]
  refine drun_call' ?_
  simp only [go_sem, calV]
  refine into' (w64 (s30 * 15183074304973897243)) 1503914060200516822 s31 d30 (Nat.mod_lt _ (by decide)) (by decide) hs31 hd30 _ rfl _ rfl ?_
  intro z31 d31 hz31 hd31 f31
  refine drun_drive 20 (p := (_, _)) ?_
  simp only [go_sem]
  refine drun_end ?_
  refine run_drive 40 ?_
  simp only [go_sem, v27_22]
  refine run_loop ?_
  refine run_drive 40 ?_
  simp only [go_sem, v27_23, v27_19, v27_21]
  refine run_drw (by kernel_rfl) ?_
  refine drun_drive 30 (p := (_, _)) ?_
  simp only [go_sem, v27_20, hG, tbl]
  refine drun_call' ?_
  simp only [go_sem, calV]
  refine into' (w64 (s30 * 15183074304973897243)) 0 s32 d31 (Nat.mod_lt _ (by decide)) (by decide) hs32 hd31 _ rfl _ rfl ?_
  intro z32 d32 hz32 hd32 f32
  refine drun_drive 20 (p := (_, _)) ?_
  simp only [go_sem]
  refine drun_end ?_
  refine run_drive 40 ?_
  simp only [go_sem, v27_22]
  refine run_loop ?_
  refine run_drive 40 ?_
  simp only [go_sem, v27_23, v27_19, v27_21]
  refine run_drw (by kernel_rfl) ?_
  refine drun_drive 30 (p := (_, _)) ?_
  simp only [go_sem, v27_20, hG, tbl]
  refine drun_call' ?_
  simp only [go_sem, calV]
  refine into' (w64 (s30 * 15183074304973897243)) 1152921504606846976 s33 d32 (Nat.mod_lt _ (by decide)) (by decide) hs33 hd32 _ rfl _ rfl ?_
  intro z33 d33 hz33 hd33 f33
  refine drun_drive 20 (p := (_, _)) ?_
  simp only [go_sem]
  refine drun_end ?_
  refine run_drive 40 ?_
  simp only [go_sem, v27_22]
  refine run_loop ?_
  refine run_drive 40 ?_
  simp only [go_sem, v27_23, v27_19, v27_25]
  refine run_call' rfl ?_
  simp only [go_sem, calV]
  refine add64_c s34 d33 0 (by decide) hs34 hd33 _ rfl _ rfl ?_
  intro z34 k35 hz34 hk35 f34
  refine run_drive 40 ?_
  simp only [go_sem, v27_26, v27_28]
  obtain ⟨w3, T3, m3, M3⟩ := round_law a0 a1 a2 a3 b3 z21 z22 z23 z24 s30 s31 s32 s33 s34 c30 c31 c32 c33 k34 z30 z31 z32 z33 z34 d30 d31 d32 d33 k35 hb3 hA T2 hs30 hz30 hz31 hz32 hz33 hz34 e30 e31 e32 e33 e34 f30 f31 f32 f33 f34
  rw [w3]
  clear e30 e31 e32 e33 e34 f30 f31 f32 f33 f34 w3
  refine run_loop ?_
  refine run_drive 40 ?_
  simp only [go_sem, v27_29, v27_3, v27_31]
  refine run_call' rfl ?_
  simp only [go_sem, calV]
  refine lower_c hG z31 z32 z33 z34 hz31 hz32 hz33 hz34 ?_
  intro g0 g1 g2 g3 hg0 hg1 hg2 hg3 eg
  refine run_drive 40 ?_
  simp only [go_sem]
  have hR : (g0 + 18446744073709551616 * g1 + 340282366920938463463374607431768211456 * g2 + 6277101735386680763835789423207666416102355444464034512896 * g3) < ell ∧ ((g0 + 18446744073709551616 * g1 + 340282366920938463463374607431768211456 * g2 + 6277101735386680763835789423207666416102355444464034512896 * g3) = (z31 + 18446744073709551616 * z32 + 340282366920938463463374607431768211456 * z33 + 6277101735386680763835789423207666416102355444464034512896 * z34) ∨ (g0 + 18446744073709551616 * g1 + 340282366920938463463374607431768211456 * g2 + 6277101735386680763835789423207666416102355444464034512896 * g3) + ell = (z31 + 18446744073709551616 * z32 + 340282366920938463463374607431768211456 * z33 + 6277101735386680763835789423207666416102355444464034512896 * z34)) := by
    clear M0 M1 M2 M3
    rw [eg]
    unfold ell
    split <;> omega
  refine run_ret_drop Tryd.func27 res27 [] (lw (g0 + 18446744073709551616 * g1 + 340282366920938463463374607431768211456 * g2 + 6277101735386680763835789423207666416102355444464034512896 * g3)) [] rfl (by simp) trivial (by simp [uniq]) ?_ (hQ _ hR.1 ?_)
  · rw [lw_of hg0 hg1 hg2 hg3]
    simp only [go_sem, rr27, ren, rens]
  · exact mont_law M0 M1 M2 M3 hR.2
end Go.Vs.Tryd
namespace Go.Vs.Tryd
open Go.Proofs
variable {G : Nat → List V}
set_option linter.unusedSimpArgs false
attribute [local go_sem] Option.isSome_some Option.isSome_none Kind.m Kind.w Kind.g look_ro look_rw look_grow lenO drive stepV exo expo evs fillV isNil nilKind eqV eqL optA optM sliceAtV ev kn V.known V.one ldc stc splice cellsOf asK asN asB asS asG asT appV srcV lenV setd wantV exitV rvs rv one List.length_cons List.length_nil List.cons_append List.nil_append List.append_nil List.replicate List.getD_cons_zero List.getD_cons_succ List.set_cons_zero List.set_cons_succ List.getElem?_cons_zero List.getElem?_cons_succ List.getElem?_nil List.take_succ_cons List.take_zero List.take_nil List.drop_succ_cons List.drop_zero List.drop_nil List.all_cons List.all_nil List.any_cons List.any_nil Bool.and_true Bool.true_and Bool.and_self Option.map_some Option.map_none Option.bind_some Option.some.injEq Nat.add_zero Nat.zero_add Int.toNat_zero Int.toNat_one Int.zero_add Int.add_zero if_true if_false ite_true ite_false and_true true_and and_self ne_eq not_false_eq_true not_true_eq_false decide_true decide_false Bool.false_eq_true Bool.not_true Bool.not_false beq_self_eq_true BEq.rfl Bool.not_eq_true Nat.le_refl Int.le_refl Nat.zero_le List.foldl List.map_cons List.map_nil Prod.mk.injEq Int.cast_ofNat_Int Int.zero_le_ofNat b_add_cc b_add_cl b_add_lc b_mul_cc b_mul_cl b_mul_lc b_sub_cc b_sub_cl b_sub_lc b_and_cc b_and_cl b_and_lc b_or_cc b_or_cl b_or_lc b_xor_cc b_xor_cl b_xor_lc b_andNot_cc b_andNot_cl b_andNot_lc b_shr_cc b_shr_cl b_shr_lc b_shl_cc b_shl_cl b_shl_lc b_lss b_leq b_gtr b_geq b_add_i b_sub_i b_mul_i beq_cc beq_cl beq_lc beq_ll b_quo_i b_rem_i neg_u64 wrap_i64 driveD stepD idsAt idOf maskH_nil restore_nil restore_mask List.filterMap_nil List.filterMap_cons VOp.looks VOp.makes exA
def winv : Nat := 4458503529701987551646482192314240623644693141688353256590997718326214331684
theorem redc {R N x y : Nat} (hR : R < ell) (h : 115792089237316195423570985008687907853269984665640564039457584007913129639936 * R + ell * x = N + ell * y) : R = N * winv % ell := by
  have h1 : (115792089237316195423570985008687907853269984665640564039457584007913129639936 * R) % ell = N % ell := by
    rw [← Nat.add_mul_mod_self_left _ ell x, h, Nat.add_mul_mod_self_left]
  have h2 : N * winv % ell = R % ell := by
    rw [Nat.mul_mod, ← h1, ← Nat.mul_mod, Nat.mul_right_comm, Nat.mul_mod, show (115792089237316195423570985008687907853269984665640564039457584007913129639936 * winv) % ell = 1 by decide, Nat.one_mul, Nat.mod_mod]
  rw [h2, Nat.mod_eq_of_lt hR]
theorem product' (hG : G 0 = tbl) (A B : Nat) (hA : A < ell) (hB : B < 115792089237316195423570985008687907853269984665640564039457584007913129639936) {h : Heap} {R : V → Heap → Prop} (hQ : R (lw (A * B * winv % ell)) h) : VCall Tryd.prog G 27 [lw A, lw B] h R := by
  refine vcall_plain (Q := fun v => v = lw (A * B * winv % ell)) ?_ (fun g => by simp only [rens, lw_plain]) ?_ ?_
  · have hA' : A < 115792089237316195423570985008687907853269984665640564039457584007913129639936 := by unfold ell at hA; omega
    obtain ⟨a0, a1, a2, a3, ha0, ha1, ha2, ha3, ea, eA⟩ := limbs4 A hA'
    obtain ⟨b0, b1, b2, b3, hb0, hb1, hb2, hb3, eb, eB⟩ := limbs4 B hB
    rw [ea, eb]
    refine product0 hG a0 a1 a2 a3 b0 b1 b2 b3 ha0 ha1 ha2 ha3 hb0 hb1 hb2 hb3 (by rw [← eA]; exact hA) _ ?_
    rintro R hR ⟨x, y, e⟩
    refine ⟨?_, rfl⟩
    rw [← eA, ← eB] at e
    rw [redc hR e]
  · rintro v g rfl; exact lw_plain _ g
  · rintro v rfl; exact hQ
end Go.Vs.Tryd
namespace Go.Vs.Tryd
open Go.Proofs
variable {G : Nat → List V}
set_option linter.unusedSimpArgs false
attribute [local go_sem] lenO_nils lenO_sl sliceAtV Int.sub_zero List.length_append List.all_append ge_iff_le gt_iff_lt Int.natCast_nonneg Int.toNat_natCast Nat.mul_one b_and_ll b_shr_ll b_mul_ll b_add_ll b_or_ll b_shl_ll pick_ll pick_lc pick_bb driveS stopV Option.isSome_some Option.isSome_none Kind.m Kind.w Kind.g look_ro look_rw look_grow drive stepV exo expo evs fillV isNil nilKind eqV eqL optA optM sliceAtV ev kn ldc stc splice appV srcV lenV setd wantV exitV rvs rv one List.length_cons List.length_nil List.cons_append List.nil_append List.append_nil List.replicate List.getD_cons_zero List.getD_cons_succ List.set_cons_zero List.set_cons_succ List.getElem?_cons_zero List.getElem?_cons_succ List.getElem?_nil List.take_succ_cons List.take_zero List.take_nil List.drop_succ_cons List.drop_zero List.drop_nil List.all_cons List.all_nil List.any_cons List.any_nil Bool.and_true Bool.true_and Bool.and_self Option.map_some Option.map_none Option.bind_some Option.some.injEq Nat.add_zero Nat.zero_add Int.toNat_zero Int.toNat_one Int.zero_add Int.add_zero if_true if_false ite_true ite_false and_true true_and and_self ne_eq not_false_eq_true not_true_eq_false decide_true decide_false Bool.false_eq_true Bool.not_true Bool.not_false beq_self_eq_true BEq.rfl Bool.not_eq_true Nat.le_refl Int.le_refl Nat.zero_le List.foldl List.map_cons List.map_nil Prod.mk.injEq Int.cast_ofNat_Int Int.zero_le_ofNat b_add_cc b_add_cl b_add_lc b_mul_cc b_mul_cl b_mul_lc b_sub_cc b_sub_cl b_sub_lc b_and_cc b_and_cl b_and_lc b_or_cc b_or_cl b_or_lc b_xor_cc b_xor_cl b_xor_lc b_andNot_cc b_andNot_cl b_andNot_lc b_shr_cc b_shr_cl b_shr_lc b_shl_cc b_shl_cl b_shl_lc b_lss b_leq b_gtr b_geq b_add_i b_sub_i b_mul_i beq_cc beq_cl beq_lc beq_ll b_quo_i b_rem_i neg_u64 wrap_i64 driveD stepD idsAt idOf maskH_nil restore_nil restore_mask List.filterMap_nil List.filterMap_cons VOp.looks VOp.makes exA cells_agg cells_int cells_bool cells_str cells_nilp cells_ptr cells_glob cells_nils cells_sl cells_nilf cells_fn cells_nili cells_ifc known_agg known_tup known_int known_bool known_str known_nilp known_ptr known_glob known_nils known_sl known_nilf known_fn known_nili known_ifc known_unk one_agg one_tup one_int one_bool one_str one_nilp one_ptr one_glob one_nils one_sl one_nilf one_fn one_nili one_ifc asK_int asN_int asB_bool asS_str asG_agg asT_tup
attribute [local go_sem_proc] Nat.reduceAdd Nat.reduceSub Nat.reduceLeDiff Nat.reduceMul Nat.reduceLT Nat.reduceEqDiff Int.reduceLT Int.reduceLE Int.reduceAdd Int.reduceSub Int.reduceMul Int.reduceToNat reduceIte reduceCtorEq Nat.reduceBEq
attribute [local go_sem ↓] lc_len lc_take lc_drop lc_known lc_one lc_rens lc_cells lw_known lw_agg lw_asG
set_option maxRecDepth 100000
set_option maxHeartbeats 1000000
theorem least' (hG : G 0 = tbl) (A : Nat) (hA : A < 115792089237316195423570985008687907853269984665640564039457584007913129639936) {h : Heap} {R : V → Heap → Prop} (hQ : R (lw (A % ell)) h) : VCall Tryd.prog G 28 [lw A] h R := by
  refine vcall_plain (Q := fun v => v = lw (A % ell)) (least hG A hA _ ⟨rfl, rfl⟩) (fun g => by simp only [rens, lw_plain]) ?_ ?_
  · rintro v g rfl; exact lw_plain _ g
  · rintro v rfl; exact hQ
def tw : Nat := 1627715501170711445284395025044413883736156588369414752970002579683115011841
theorem lw_twice : V.agg [.int .u64 (nl 11819153939886771969), .int .u64 (nl 14991950615390032711), .int .u64 (nl 14910419812499177061), .int .u64 (nl 259310039853996605)] = lw tw := rfl
theorem tw_lt : tw < 115792089237316195423570985008687907853269984665640564039457584007913129639936 := by decide
def wo : Nat := 7237005577332262213973186563042994240413239274941949949428319933631315875101
theorem lw_once : V.agg [.int .u64 (nl 15486807595281847581), .int .u64 (nl 14334777244411350896), .int .u64 (nl 18446744073709551614), .int .u64 (nl 1152921504606846975)] = lw wo := rfl
theorem lw_less : V.agg [.int .u64 (nl 6346243789798364139), .int .u64 (nl 1503914060200516822), .int .u64 (nl 0), .int .u64 (nl 1152921504606846976)] = lw (ell - 2) := rfl
theorem ell_pos : 0 < ell := by decide
theorem ell_lt : ell < 115792089237316195423570985008687907853269984665640564039457584007913129639936 := by decide
theorem mod_lt (n : Nat) : n % ell < 115792089237316195423570985008687907853269984665640564039457584007913129639936 := Nat.lt_trans (Nat.mod_lt _ ell_pos) ell_lt
theorem mod_lt' (n : Nat) : n % ell < ell := Nat.mod_lt _ ell_pos
theorem mmod (a b : Nat) : a % ell * b % ell = a * b % ell := Nat.mod_mul_mod a b ell
theorem mmod' (a b : Nat) : a * (b % ell) % ell = a * b % ell := Nat.mul_mod_mod a b ell
theorem tw_law (X : Nat) : X * winv % ell * tw * winv % ell = X % ell := by
  have h : winv * tw * winv % ell = 1 := by decide
  rw [Nat.mul_assoc (X * winv % ell), mmod, Nat.mul_assoc X, ← Nat.mul_assoc winv, Nat.mul_mod, h, Nat.mul_one, Nat.mod_mod]
theorem wo_law : wo * winv % ell = 1 := by decide
theorem tw_wo (X : Nat) : X * tw * winv % ell = X * wo % ell := by
  have h : tw * winv % ell = wo := by decide
  rw [Nat.mul_assoc, Nat.mul_mod, h, mmod]
theorem lc_eqL {A B : Nat} (hA : A < 115792089237316195423570985008687907853269984665640564039457584007913129639936) (hB : B < 115792089237316195423570985008687907853269984665640564039457584007913129639936) : eqL [.i, .i, .i, .i] (lc A) (lc B) = some (decide (A = B)) := by
  simp only [eqL, eqV, lc, u, asK, asN, if_true, beq_cc, Option.some.injEq]
  rw [Bool.eq_iff_iff]
  simp only [Bool.and_eq_true, decide_eq_true_eq, Bool.and_true]
  omega
theorem lc_small {n : Nat} (h : n < 18446744073709551616) : [V.int .u64 (n : Int), V.int .u64 (nl 0), V.int .u64 (nl 0), V.int .u64 (nl 0)] = lc n := by
  unfold lc u
  rw [show n % 18446744073709551616 = n by omega, show n / 18446744073709551616 % 18446744073709551616 = 0 by omega, show n / 340282366920938463463374607431768211456 % 18446744073709551616 = 0 by omega, show n / 6277101735386680763835789423207666416102355444464034512896 % 18446744073709551616 = 0 by omega]
  rfl
theorem mul (hG : G 0 = tbl) (A B : Nat) (hA : A < 115792089237316195423570985008687907853269984665640564039457584007913129639936) (hB : B < 115792089237316195423570985008687907853269984665640564039457584007913129639936) (Q : V → Heap → Prop) (hQ : Q (lw (A * B % ell)) []) : VCall Tryd.prog G 13 [lw A, lw B] [] Q := by
  refine vcall_body Tryd.func13 nm13 code13 nt13 ?_
  refine run_drive 60 ?_
  simp only [go_sem, v13, v13_0]
  refine run_drw (by kernel_rfl) ?_
  refine drun_drive 40 (p := (_, _)) ?_
  simp only [go_sem, v13_1, hG, tbl, lw_twice]
  refine drun_call' ?_
  simp only [go_sem, calV]
  refine least' hG A hA ?_
  refine drun_drive 40 (p := (_, _)) ?_
  simp only [go_sem]
  refine drun_call' ?_
  simp only [go_sem, calV]
  refine least' hG B hB ?_
  refine drun_drive 40 (p := (_, _)) ?_
  simp only [go_sem]
  refine drun_call' ?_
  simp only [go_sem, calV]
  refine product' hG _ _ (mod_lt' A) (mod_lt B) ?_
  refine drun_drive 40 (p := (_, _)) ?_
  simp only [go_sem]
  refine drun_call' ?_
  simp only [go_sem, calV]
  refine product' hG _ _ (mod_lt' _) tw_lt ?_
  refine drun_drive 40 (p := (_, _)) ?_
  simp only [go_sem]
  refine drun_end ?_
  refine run_drive 60 ?_
  simp only [go_sem]
  refine run_ret_drop Tryd.func13 res13 [] (lw (A * B % ell)) [] rfl (by simp) trivial (by simp [uniq]) ?_ hQ
  rw [tw_law, mmod, mmod']
  simp only [go_sem, rr13, lw_plain]
theorem mul' (hG : G 0 = tbl) (A B : Nat) (hA : A < 115792089237316195423570985008687907853269984665640564039457584007913129639936) (hB : B < 115792089237316195423570985008687907853269984665640564039457584007913129639936) {h : Heap} {R : V → Heap → Prop} (hQ : R (lw (A * B % ell)) h) : VCall Tryd.prog G 13 [lw A, lw B] h R := by
  refine vcall_plain (Q := fun v => v = lw (A * B % ell)) (mul hG A B hA hB _ ⟨rfl, rfl⟩) (fun g => by simp only [rens, lw_plain]) ?_ ?_
  · rintro v g rfl; exact lw_plain _ g
  · rintro v rfl; exact hQ
theorem is_zero (hG : G 0 = tbl) (A : Nat) (hA : A < 115792089237316195423570985008687907853269984665640564039457584007913129639936) (Q : V → Heap → Prop) (hQ : Q (.bool (decide (A % ell = 0))) []) : VCall Tryd.prog G 14 [lw A] [] Q := by
  refine vcall_body Tryd.func14 nm14 code14 nt14 ?_
  refine run_drive 60 ?_
  simp only [go_sem, v14, v14_0]
  refine run_drive 60 ?_
  simp only [go_sem, v14_1]
  refine run_call' rfl ?_
  simp only [go_sem, calV]
  refine least' hG A hA ?_
  refine run_drive 60 ?_
  simp only [go_sem, lc_zero, lc_eqL (mod_lt A) (by decide : 0 < 115792089237316195423570985008687907853269984665640564039457584007913129639936)]
  refine run_ret_drop Tryd.func14 res14 [] (.bool (decide (A % ell = 0))) [] rfl (by simp) trivial (by simp [uniq]) ?_ hQ
  simp only [go_sem, rr14, ren]
theorem int_ (n : Nat) (hn : n < 18446744073709551616) (Q : V → Heap → Prop) (hQ : Q (lw n) []) : VCall Tryd.prog G 16 [.int .u64 (n : Int)] [] Q := by
  refine vcall_body Tryd.func16 nm16 code16 nt16 ?_
  refine run_drive 60 ?_
  simp only [go_sem, v16, v16_0, v16_1]
  refine run_ret_drop Tryd.func16 res16 [] (lw n) [] rfl (by simp) trivial (by simp [uniq]) ?_ hQ
  simp only [go_sem, rr16, lw_plain, lc_small hn]
end Go.Vs.Tryd
namespace Go.Vs.Pr
def Pr (p : Nat) : Prop := 2 ≤ p ∧ ∀ d, d ∣ p → d = 1 ∨ d = p
theorem pr_cop {p a : Nat} (h : Pr p) (ha : ¬ p ∣ a) : Nat.Coprime p a := by
  rcases h.2 _ (Nat.gcd_dvd_left p a) with e | e
  · exact e
  · exact absurd (e ▸ Nat.gcd_dvd_right p a) ha
def ch : Nat → Nat → Nat
  | _, 0 => 1
  | 0, _ + 1 => 0
  | n + 1, k + 1 => ch n k + ch n (k + 1)
theorem ch_zero (n : Nat) : ch n 0 = 1 := by cases n <;> rfl
theorem ch_step (n k : Nat) : ch (n + 1) (k + 1) = ch n k + ch n (k + 1) := rfl
theorem ch_lt : ∀ {n k : Nat}, n < k → ch n k = 0
  | n, 0, h => by omega
  | 0, k + 1, _ => rfl
  | n + 1, k + 1, h => by rw [ch_step, ch_lt (by omega), ch_lt (by omega)]
theorem ch_self : ∀ n, ch n n = 1
  | 0 => rfl
  | n + 1 => by rw [ch_step, ch_self n, ch_lt (Nat.lt_succ_self n)]
theorem ch_mul : ∀ n k : Nat, (n + 1) * ch n k = ch (n + 1) (k + 1) * (k + 1)
  | 0, 0 => rfl
  | 0, k + 1 => by rw [ch_lt (by omega : 0 < k + 1), ch_lt (by omega : 0 + 1 < k + 1 + 1)]; omega
  | n + 1, 0 => by
    have := ch_mul n 0
    rw [ch_zero] at *
    rw [ch_step, ch_zero]
    omega
  | n + 1, k + 1 => by
    have h1 := ch_mul n k
    have h2 := ch_mul n (k + 1)
    rw [ch_step (n + 1) (k + 1)]
    have e : ch (n + 1) (k + 1) = ch n k + ch n (k + 1) := rfl
    generalize ch (n + 1) (k + 1) = Z at *
    generalize ch (n + 1) (k + 1 + 1) = W at *
    rw [Nat.add_mul Z W, ← h2, Nat.mul_succ Z (k + 1), ← h1, Nat.succ_mul (n + 1) Z]
    rw [e, Nat.mul_add]
    omega
def S (n a : Nat) : Nat → Nat
  | 0 => 0
  | m + 1 => S n a m + ch n m * a ^ m
theorem S_step (n a : Nat) : ∀ m, S (n + 1) a (m + 1) = S n a (m + 1) + a * S n a m
  | 0 => by simp [S, ch_zero]
  | m + 1 => by
    have ih := S_step n a m
    show S (n + 1) a (m + 1) + ch (n + 1) (m + 1) * a ^ (m + 1) = (S n a (m + 1) + ch n (m + 1) * a ^ (m + 1)) + a * (S n a m + ch n m * a ^ m)
    rw [ih, ch_step, Nat.add_mul, Nat.mul_add, Nat.pow_succ, show a * (ch n m * a ^ m) = ch n m * (a ^ m * a) by rw [Nat.mul_left_comm, Nat.mul_comm a]]
    omega
theorem S_all (a : Nat) : ∀ n, S n a (n + 1) = (a + 1) ^ n
  | 0 => by simp [S, ch]
  | n + 1 => by
    rw [S_step, show S n a (n + 1 + 1) = S n a (n + 1) + ch n (n + 1) * a ^ (n + 1) from rfl, ch_lt (Nat.lt_succ_self n), S_all a n, Nat.zero_mul, Nat.add_zero, Nat.pow_succ, Nat.mul_add, Nat.mul_one, Nat.mul_comm a, Nat.add_comm]
theorem ch_dvd {p k : Nat} (h : Pr p) (hk : 0 < k) (hkp : k < p) : p ∣ ch p k := by
  obtain ⟨k, rfl⟩ : ∃ j, k = j + 1 := ⟨k - 1, by omega⟩
  obtain ⟨n, rfl⟩ : ∃ j, p = j + 1 := ⟨p - 1, by have := h.1; omega⟩
  have e := ch_mul n k
  have hd : (n + 1) ∣ ch (n + 1) (k + 1) * (k + 1) := ⟨_, e.symm⟩
  refine Nat.Coprime.dvd_of_dvd_mul_right (pr_cop h ?_) hd
  intro hh
  have := Nat.le_of_dvd (by omega) hh
  omega
theorem S_mod {p : Nat} (h : Pr p) (a : Nat) : ∀ m, m < p → S p a (m + 1) % p = 1 % p
  | 0, _ => by simp [S, ch_zero]
  | m + 1, hm => by
    show (S p a (m + 1) + ch p (m + 1) * a ^ (m + 1)) % p = _
    obtain ⟨c, hc⟩ := ch_dvd h (Nat.succ_pos m) hm
    rw [hc, Nat.mul_assoc, Nat.add_mul_mod_self_left, S_mod h a m (by omega)]
theorem dream {p : Nat} (h : Pr p) (a : Nat) : (a + 1) ^ p % p = (a ^ p + 1) % p := by
  rw [← S_all a p]
  obtain ⟨n, hn⟩ : ∃ j, p = j + 1 := ⟨p - 1, by have := h.1; omega⟩
  have e := S_mod h a n (by omega)
  rw [← hn] at e
  show (S p a p + ch p p * a ^ p) % p = _
  rw [Nat.add_mod, e, ch_self, Nat.one_mul, ← Nat.add_mod, Nat.add_comm]
theorem fermat0 {p : Nat} (h : Pr p) : ∀ a, a ^ p % p = a % p
  | 0 => by rw [Nat.zero_pow (by have := h.1; omega)]
  | a + 1 => by rw [dream h, Nat.add_mod, fermat0 h a, ← Nat.add_mod]
theorem dvd_of_mod_eq {p a b : Nat} (h : a % p = b % p) : p ∣ a - b := Nat.dvd_of_mod_eq_zero (Nat.sub_mod_eq_zero_of_mod_eq h)
theorem fermat {p a : Nat} (h : Pr p) (ha : ¬ p ∣ a) : a ^ (p - 1) % p = 1 := by
  have h2 := h.1
  have e : a ^ p = a * a ^ (p - 1) := by
    rw [Nat.mul_comm, ← Nat.pow_succ, show (p - 1).succ = p by omega]
  have hd := dvd_of_mod_eq (fermat0 h a)
  rw [e] at hd
  have hp : 0 < a := Nat.pos_of_ne_zero fun e => ha (e ▸ Nat.dvd_zero p)
  have hq : 0 < a ^ (p - 1) := Nat.pow_pos hp
  rw [show a * a ^ (p - 1) - a = a * (a ^ (p - 1) - 1) by rw [Nat.mul_sub, Nat.mul_one]] at hd
  obtain ⟨c, hc⟩ := Nat.Coprime.dvd_of_dvd_mul_left (pr_cop h ha) hd
  rw [show a ^ (p - 1) = 1 + p * c by omega, Nat.add_mul_mod_self_left, Nat.mod_eq_of_lt (by omega)]
theorem has_pr : ∀ (b n : Nat), n ≤ b → 2 ≤ n → ∃ p, Pr p ∧ p ∣ n
  | 0, n, h, h2 => by omega
  | b + 1, n, h, h2 => by
    by_cases hp : Pr n
    · exact ⟨n, hp, Nat.dvd_refl n⟩
    · have : ∃ d, d ∣ n ∧ d ≠ 1 ∧ d ≠ n := by
        apply Classical.byContradiction
        intro hne
        refine hp ⟨h2, fun d hd => ?_⟩
        by_cases h1 : d = 1
        · exact .inl h1
        · by_cases h3 : d = n
          · exact .inr h3
          · exact (hne ⟨d, hd, h1, h3⟩).elim
      obtain ⟨d, hd, h1, h3⟩ := this
      have hle := Nat.le_of_dvd (by omega) hd
      have h0 : d ≠ 0 := by
        rintro rfl
        have := Nat.eq_zero_of_zero_dvd hd
        omega
      obtain ⟨p, hp, hpd⟩ := has_pr b d (by omega) (by omega)
      exact ⟨p, hp, Nat.dvd_trans hpd hd⟩
theorem pr_of {N B : Nat} (h2 : 2 ≤ N) (hB : N < (B + 1) * (B + 1)) (h : ∀ p, Pr p → p ∣ N → B < p) : Pr N := by
  refine ⟨h2, fun d hd => ?_⟩
  apply Classical.byContradiction
  intro hne
  obtain ⟨e, he⟩ := hd
  have h1 : d ≠ 1 := fun e => hne (.inl e)
  have h3 : d ≠ N := fun e => hne (.inr e)
  have hd0 : d ≠ 0 := by rintro rfl; omega
  have he0 : e ≠ 0 := by rintro rfl; omega
  have he1 : e ≠ 1 := by rintro rfl; omega
  obtain ⟨p, hp, hpd⟩ := has_pr d d (Nat.le_refl d) (by omega)
  obtain ⟨q, hq, hqe⟩ := has_pr e e (Nat.le_refl e) (by omega)
  have a1 := h p hp (he ▸ Nat.dvd_trans hpd ⟨e, rfl⟩)
  have a2 := h q hq (he ▸ Nat.dvd_trans hqe ⟨d, Nat.mul_comm d e⟩)
  have b1 := Nat.le_of_dvd (by omega) hpd
  have b2 := Nat.le_of_dvd (by omega) hqe
  have : (B + 1) * (B + 1) ≤ d * e := Nat.mul_le_mul (by omega) (by omega)
  omega
theorem one_pow_mod {p x : Nat} (h1 : 2 ≤ p) (h : x % p = 1) (k : Nat) : x ^ k % p = 1 := by
  rw [Nat.pow_mod, h, Nat.one_pow, Nat.mod_eq_of_lt (by omega)]
theorem pow_gcd {p x : Nat} (h1 : 2 ≤ p) (m n : Nat) : x ^ m % p = 1 → x ^ n % p = 1 → x ^ (Nat.gcd m n) % p = 1 := by
  induction m, n using Nat.gcd.induction with
  | H0 n => intro _ h; simpa using h
  | H1 m n hm ih =>
    intro a b
    rw [Nat.gcd_rec]
    refine ih ?_ a
    have e : x ^ n = (x ^ m) ^ (n / m) * x ^ (n % m) := by rw [← Nat.pow_mul, ← Nat.pow_add, Nat.div_add_mod]
    rw [e, Nat.mul_mod, one_pow_mod h1 a, Nat.one_mul, Nat.mod_mod] at b
    exact b
theorem mod_of_dvd {p N x y : Nat} (h : p ∣ N) (e : x % N = y % N) : x % p = y % p := by
  rw [← Nat.mod_mod_of_dvd x h, e, Nat.mod_mod_of_dvd y h]
theorem pock {N q a p : Nat} (hN : 2 ≤ N) (hq : Pr q) (hqN : q ∣ N - 1) (ha : a ^ (N - 1) % N = 1) (hg : Nat.gcd (a ^ ((N - 1) / q) % N + (N - 1)) N = 1) (hp : Pr p) (hpN : p ∣ N) : q ∣ p - 1 := by
  have hp2 := hp.1
  have h1 : a ^ (N - 1) % p = 1 := by
    rw [mod_of_dvd hpN (y := 1) (by rw [ha, Nat.mod_eq_of_lt (by omega)]), Nat.mod_eq_of_lt (by omega)]
  generalize hx : a ^ ((N - 1) / q) = x at hg
  have hxq : x ^ q % p = 1 := by rw [← hx, ← Nat.pow_mul, Nat.div_mul_cancel hqN]; exact h1
  have hpx : ¬ p ∣ x := by
    intro h
    have : x ^ q % p = 0 := by
      rw [Nat.pow_mod, Nat.mod_eq_zero_of_dvd h, Nat.zero_pow (by have := hq.1; omega), Nat.zero_mod]
    omega
  have hf := fermat hp hpx
  apply Classical.byContradiction
  intro hne
  have hc := pr_cop hq hne
  have h3 := pow_gcd hp2 _ _ hxq hf
  rw [show Nat.gcd q (p - 1) = 1 from hc, Nat.pow_one] at h3
  have h4 : p ∣ x % N + (N - 1) := by
    apply Nat.dvd_of_mod_eq_zero
    rw [Nat.add_mod, Nat.mod_mod_of_dvd x hpN, h3, ← Nat.add_mod_mod, Nat.mod_mod]
    rw [Nat.add_mod_mod, show 1 + (N - 1) = N by omega]
    exact Nat.mod_eq_zero_of_dvd hpN
  have h5 := Nat.dvd_gcd h4 hpN
  rw [hg] at h5
  have := Nat.le_of_dvd (by omega) h5
  omega
def pm (n : Nat) : Nat → Nat → Nat → Nat → Nat
  | 0, _, _, acc => acc % n
  | f + 1, b, e, acc => bif Nat.beq (e % 2) 1 then pm n f (b * b % n) (e / 2) (acc * b % n) else pm n f (b * b % n) (e / 2) acc
theorem pm_eq (n : Nat) : ∀ (f b e acc : Nat), e < 2 ^ f → pm n f b e acc = acc * b ^ e % n
  | 0, b, e, acc, h => by
    have : e = 0 := by rw [Nat.pow_zero] at h; omega
    subst this; simp [pm]
  | f + 1, b, e, acc, h => by
    have h' : e / 2 < 2 ^ f := by rw [Nat.pow_succ] at h; omega
    have key : (b * b % n) ^ (e / 2) % n = b ^ (2 * (e / 2)) % n := by
      rw [← Nat.pow_mod, ← Nat.pow_two, ← Nat.pow_mul]
    unfold pm
    cases hb : Nat.beq (e % 2) 1
    · have he : e % 2 ≠ 1 := fun h => by rw [h] at hb; cases hb
      simp only [cond_false]
      rw [pm_eq n f _ _ _ h', Nat.mul_mod, key, ← Nat.mul_mod, show 2 * (e / 2) = e by omega]
    · have he : e % 2 = 1 := Nat.eq_of_beq_eq_true hb
      simp only [cond_true]
      rw [pm_eq n f _ _ _ h', Nat.mul_mod, key, Nat.mod_mod, ← Nat.mul_mod, Nat.mul_assoc, Nat.mul_comm b, ← Nat.pow_succ, show (2 * (e / 2)).succ = e by omega]
theorem pm_one {n f b e : Nat} (h : e < 2 ^ f) : b ^ e % n = pm n f b e 1 := by rw [pm_eq n f b e 1 h, Nat.one_mul]
theorem pock' {N q a p : Nat} (h : (decide (2 ≤ N) && Nat.beq ((N - 1) % q) 0 && Nat.beq (pm N 256 a (N - 1) 1) 1 && Nat.beq (Nat.gcd (pm N 256 a ((N - 1) / q) 1 + (N - 1)) N) 1 && decide (N < 2 ^ 256)) = true) (hq : Pr q) (hp : Pr p) (hpN : p ∣ N) : q ∣ p - 1 := by
  simp only [Bool.and_eq_true, decide_eq_true_eq] at h
  obtain ⟨⟨⟨⟨h1, h2⟩, h3⟩, h4⟩, h5⟩ := h
  have h3 := Nat.eq_of_beq_eq_true h3
  have h4 := Nat.eq_of_beq_eq_true h4
  rw [← pm_one (by omega)] at h3
  rw [← pm_one (Nat.lt_of_le_of_lt (Nat.div_le_self _ _) (by omega))] at h4
  exact pock h1 hq (Nat.dvd_of_mod_eq_zero (Nat.eq_of_beq_eq_true h2)) h3 h4 hp hpN
theorem pock1 {N q a : Nat} (h : (decide (2 ≤ N) && Nat.beq ((N - 1) % q) 0 && Nat.beq (pm N 256 a (N - 1) 1) 1 && Nat.beq (Nat.gcd (pm N 256 a ((N - 1) / q) 1 + (N - 1)) N) 1 && decide (N < 2 ^ 256)) = true) (hq : Pr q) (hs : N < (q + 1) * (q + 1)) : Pr N := by
  refine pr_of (B := q) ?_ hs fun p hp hpN => ?_
  · simp only [Bool.and_eq_true, decide_eq_true_eq] at h
    exact h.1.1.1.1
  · have := Nat.le_of_dvd (by have := hp.1; omega) (pock' h hq hp hpN)
    have := hp.1
    omega
def nod (n : Nat) : Nat → Bool
  | 0 => true
  | 1 => true
  | m + 2 => !(Nat.beq (n % (m + 2)) 0) && nod n (m + 1)
theorem nod_get {n : Nat} : ∀ {m d : Nat}, nod n m = true → 2 ≤ d → d ≤ m → ¬ d ∣ n
  | 0, d, _, h2, h3 => by omega
  | 1, d, _, h2, h3 => by omega
  | m + 2, d, h, h2, h3 => by
    simp only [nod, Bool.and_eq_true, Bool.not_eq_true'] at h
    by_cases e : d = m + 2
    · subst e
      intro hd
      rw [Nat.mod_eq_zero_of_dvd hd] at h
      cases h.1
    · exact nod_get h.2 h2 (by omega)
theorem small {n m : Nat} (h2 : 2 ≤ n) (hm : n < (m + 1) * (m + 1)) (h : nod n m = true) : Pr n := by
  refine pr_of h2 hm fun p hp hpn => ?_
  rcases Nat.lt_or_ge m p with h1 | h1
  · exact h1
  · exact (nod_get h hp.1 h1 hpn).elim
theorem p1 : Pr 1224481 := small (m := 1200) (by decide) (by decide) (by decide +kernel)
theorem p2 : Pr 531581 := small (m := 1200) (by decide) (by decide) (by decide +kernel)
theorem p3a {p : Nat} (hp : Pr p) (hpN : p ∣ 1257559732178653) : 1224481 ∣ p - 1 := pock' (N := 1257559732178653) (a := 2) (by decide +kernel) p1 hp hpN
theorem p3b {p : Nat} (hp : Pr p) (hpN : p ∣ 1257559732178653) : 531581 ∣ p - 1 := pock' (N := 1257559732178653) (a := 2) (by decide +kernel) p2 hp hpN
theorem both {m n p B : Nat} (hc : Nat.gcd m n = 1) (hp : Pr p) (a1 : m ∣ p - 1) (a2 : n ∣ p - 1) (hB : m * n = B) : B < p := by
  have h2 := hp.1
  have hd : m * n ∣ p - 1 := Nat.Coprime.mul_dvd_of_dvd_of_dvd hc a1 a2
  have := Nat.le_of_dvd (by omega) hd
  omega
theorem p3 : Pr 1257559732178653 := pr_of (B := 650910834461) (by decide) (by decide) fun p hp hpN => both (by decide +kernel) hp (p3a hp hpN) (p3b hp hpN) (by decide)
theorem p4 : Pr 4434155615661930479 := pock1 (a := 2) (by decide +kernel) p3 (by decide)
theorem p5 : Pr 172054593956031949258510691 := pock1 (a := 2) (by decide +kernel) p4 (by decide)
theorem p6 : Pr 19757330305831588566944191468367130476339 := pock1 (a := 2) (by decide +kernel) p5 (by decide)
theorem p7 : Pr 276602624281642239937218680557139826668747 := pock1 (a := 2) (by decide +kernel) p6 (by decide)
theorem p8 : Pr 7237005577332262213973186563042994240857116359379907606001950938285454250989 := pock1 (a := 2) (by decide +kernel) p7 (by decide)
theorem inv_pow {p a : Nat} (h : Pr p) (ha : a % p ≠ 0) : a ^ (p - 2) * a % p = 1 := by
  have := h.1
  rw [← Nat.pow_succ, show (p - 2).succ = p - 1 by omega]
  exact fermat h fun hd => ha (Nat.mod_eq_zero_of_dvd hd)
end Go.Vs.Pr
namespace Go.Vs.Tryd
open Go.Proofs
variable {G : Nat → List V}
set_option linter.unusedSimpArgs false
attribute [local go_sem] lenO_nils lenO_sl sliceAtV Int.sub_zero List.length_append List.all_append ge_iff_le gt_iff_lt Int.natCast_nonneg Int.toNat_natCast Nat.mul_one b_and_ll b_shr_ll b_mul_ll b_add_ll b_or_ll b_shl_ll pick_ll pick_lc pick_bb driveS stopV Option.isSome_some Option.isSome_none Kind.m Kind.w Kind.g look_ro look_rw look_grow drive stepV exo expo evs fillV isNil nilKind eqV eqL optA optM sliceAtV ev kn ldc stc splice appV srcV lenV setd wantV exitV rvs rv one List.length_cons List.length_nil List.cons_append List.nil_append List.append_nil List.replicate List.getD_cons_zero List.getD_cons_succ List.set_cons_zero List.set_cons_succ List.getElem?_cons_zero List.getElem?_cons_succ List.getElem?_nil List.take_succ_cons List.take_zero List.take_nil List.drop_succ_cons List.drop_zero List.drop_nil List.all_cons List.all_nil List.any_cons List.any_nil Bool.and_true Bool.true_and Bool.and_self Option.map_some Option.map_none Option.bind_some Option.some.injEq Nat.add_zero Nat.zero_add Int.toNat_zero Int.toNat_one Int.zero_add Int.add_zero if_true if_false ite_true ite_false and_true true_and and_self ne_eq not_false_eq_true not_true_eq_false decide_true decide_false Bool.false_eq_true Bool.not_true Bool.not_false beq_self_eq_true BEq.rfl Bool.not_eq_true Nat.le_refl Int.le_refl Nat.zero_le List.foldl List.map_cons List.map_nil Prod.mk.injEq Int.cast_ofNat_Int Int.zero_le_ofNat b_add_cc b_add_cl b_add_lc b_mul_cc b_mul_cl b_mul_lc b_sub_cc b_sub_cl b_sub_lc b_and_cc b_and_cl b_and_lc b_or_cc b_or_cl b_or_lc b_xor_cc b_xor_cl b_xor_lc b_andNot_cc b_andNot_cl b_andNot_lc b_shr_cc b_shr_cl b_shr_lc b_shl_cc b_shl_cl b_shl_lc b_lss b_leq b_gtr b_geq b_add_i b_sub_i b_mul_i beq_cc beq_cl beq_lc beq_ll b_quo_i b_rem_i neg_u64 wrap_i64 driveD stepD idsAt idOf maskH_nil restore_nil restore_mask List.filterMap_nil List.filterMap_cons VOp.looks VOp.makes exA cells_agg cells_int cells_bool cells_str cells_nilp cells_ptr cells_glob cells_nils cells_sl cells_nilf cells_fn cells_nili cells_ifc known_agg known_tup known_int known_bool known_str known_nilp known_ptr known_glob known_nils known_sl known_nilf known_fn known_nili known_ifc known_unk one_agg one_tup one_int one_bool one_str one_nilp one_ptr one_glob one_nils one_sl one_nilf one_fn one_nili one_ifc asK_int asN_int asB_bool asS_str asG_agg asT_tup
attribute [local go_sem_proc] Nat.reduceAdd Nat.reduceSub Nat.reduceLeDiff Nat.reduceMul Nat.reduceLT Nat.reduceEqDiff Int.reduceLT Int.reduceLE Int.reduceAdd Int.reduceSub Int.reduceMul Int.reduceToNat reduceIte reduceCtorEq Nat.reduceBEq
attribute [local go_sem ↓] lc_len lc_take lc_drop lc_known lc_one lc_rens lc_cells lw_known lw_agg lw_asG
set_option maxRecDepth 100000
set_option maxHeartbeats 1000000
theorem lc_at (E k : Nat) (hk : k < 4) : ((lc E).drop k).take 1 = [.int .u64 ((E / 18446744073709551616 ^ k % 18446744073709551616 : Nat) : Int)] := by
  have : k = 0 ∨ k = 1 ∨ k = 2 ∨ k = 3 := by omega
  rcases this with rfl | rfl | rfl | rfl
  · simp only [Nat.pow_zero, Nat.div_one]; rfl
  all_goals rfl
theorem bit_law (E m : Nat) : a64 (r64 (E / 18446744073709551616 ^ (m / 64) % 18446744073709551616) (m % 64)) 1 = E / 2 ^ m % 2 := by
  unfold a64 r64
  rw [show min (m % 64) 64 = m % 64 by omega, show 1 % 18446744073709551616 = 2 ^ 1 - 1 from rfl, Nat.and_two_pow_sub_one_eq_mod, show 2 ^ 1 = 2 from rfl, show 18446744073709551616 = 2 ^ 64 from rfl]
  generalize hF : E / (2 ^ 64) ^ (m / 64) = F
  have h1 : E / 2 ^ m = F / 2 ^ (m % 64) := by
    rw [← hF, Nat.div_div_eq_div_mul, ← Nat.pow_mul, ← Nat.pow_add, Nat.div_add_mod]
  rw [h1]
  have h64 : m % 64 < 64 := Nat.mod_lt _ (by decide)
  obtain ⟨c, hc⟩ : ∃ c, 64 = m % 64 + 1 + c := ⟨64 - (m % 64 + 1), by omega⟩
  have h2 : F % 2 ^ 64 / 2 ^ (m % 64) % 2 = F / 2 ^ (m % 64) % 2 := by
    generalize m % 64 = j at *
    rw [show F % 2 ^ 64 = F % (2 ^ j * (2 * 2 ^ c)) by rw [hc, Nat.pow_add, Nat.pow_add, Nat.pow_one, Nat.mul_assoc], Nat.mod_mul_right_div_self, Nat.mod_mul_right_mod]
  rw [Nat.mod_mod_of_dvd _ (show 2 ∣ 2 ^ 64 from ⟨2 ^ 63, rfl⟩), h2]
def pw (A E n m : Nat) : List V := [lw A, lw E, .int .i64 n, .ptr 0 0, .ptr 1 0, .unk, .ptr 2 0, .ptr 3 0, .ptr 4 0, .bool (decide (E % 2 ^ n / 2 ^ m ≠ 0)), .int .i64 ((m : Int) - 1)] ++ List.replicate 32 .unk
def ph (A E n m : Nat) : Heap := [some ⟨.rw, lc A⟩, some ⟨.rw, lc E⟩, some ⟨.rw, [.int .u64 (nl 0), .int .u64 (nl 0), .int .u64 (nl 0), .int .u64 (nl 0)]⟩, some ⟨.rw, lc (A * wo % ell)⟩, some ⟨.rw, lc (A ^ (E % 2 ^ n / 2 ^ m) * wo % ell)⟩]
theorem wo_end (X : Nat) : X * wo % ell * winv % ell = X % ell := by
  rw [mmod, Nat.mul_assoc, Nat.mul_mod, wo_law, Nat.mul_one, Nat.mod_mod]
theorem mont (X Y : Nat) : X * wo % ell * (Y * wo % ell) * winv % ell = X * Y * wo % ell := by
  rw [Nat.mul_assoc, mmod, ← mmod' (X * wo) (Y * wo % ell * winv), wo_end, mmod', Nat.mul_right_comm]
theorem bits_up (E n m : Nat) (h : m < n) : E % 2 ^ n / 2 ^ m = 2 * (E % 2 ^ n / 2 ^ (m + 1)) + E / 2 ^ m % 2 := by
  have h2 : E % 2 ^ n / 2 ^ m % 2 = E / 2 ^ m % 2 := by
    obtain ⟨c, rfl⟩ : ∃ c, n = m + 1 + c := ⟨n - (m + 1), by omega⟩
    rw [show 2 ^ (m + 1 + c) = 2 ^ m * (2 * 2 ^ c) by rw [Nat.pow_add, Nat.pow_add, Nat.pow_one, Nat.mul_assoc], Nat.mod_mul_right_div_self, Nat.mod_mul_right_mod]
  rw [← h2, Nat.pow_succ, ← Nat.div_div_eq_div_mul]
  exact (Nat.div_add_mod _ 2).symm
theorem power_loop (hG : G 0 = tbl) (A E n : Nat) (hE : E < 115792089237316195423570985008687907853269984665640564039457584007913129639936) (hn : n ≤ 256) {Q : V → Heap → Prop} (hQ : Q (lw (A ^ (E % 2 ^ n) % ell)) []) : ∀ m, m ≤ n → Run Tryd.prog G 31 0 Q (.l v31_13 :: .b 0 :: .c (.seq (.reg v31_15) .ret) :: [], ⟨pw A E n m, ph A E n m⟩)
  | 0, _ => by
    unfold pw ph
    rw [Nat.pow_zero, Nat.div_one]
    refine run_loop_eq v31_13.eq_1 ?_
    refine run_drive 60 ?_
    simp only [go_sem, v31_5, v31_15]
    refine run_call' rfl ?_
    simp only [go_sem, calV]
    refine product' hG _ _ (mod_lt' _) (by decide : 1 < 115792089237316195423570985008687907853269984665640564039457584007913129639936) ?_
    refine run_drive 60 ?_
    simp only [go_sem]
    refine run_ret_drop Tryd.func31 res31 [] (lw (A ^ (E % 2 ^ n) % ell)) [] rfl (by simp) trivial (by simp [uniq]) ?_ hQ
    rw [wo_end]
    simp only [go_sem, rr31, lw_plain]
  | m + 1, hm => by
    have ih := power_loop hG A E n hE hn hQ m (by omega)
    unfold pw ph
    rw [show ((m + 1 : Nat) : Int) - 1 = (m : Int) by omega]
    have hw : binI .quo .i64 (m : Int) .i64 64 = some (.int .i64 ((m / 64 : Nat) : Int)) := by
      rw [b_quo_i _ _ (by decide), show (m : Int).tdiv 64 = ((m / 64 : Nat) : Int) from (Int.ofNat_tdiv m 64).symm, wrap_i64 (by omega) (by omega)]
    have hr : binI .rem .i64 (m : Int) .i64 64 = some (.int .i64 ((m % 64 : Nat) : Int)) := by
      rw [b_rem_i _ _ (by decide), show (m : Int).tmod 64 = ((m % 64 : Nat) : Int) from (Int.ofNat_tmod m 64).symm]
    have h4 : (((m / 64 : Nat) : Int) < 4) = True := eq_true (by omega)
    have hl := lc_at E (m / 64) (by omega)
    have hb := bit_law E m
    have hwm : IntKind.i64.wrap ((m : Int) - 1) = (m : Int) - 1 := wrap_i64 (by omega) (by omega)
    have hu := bits_up E n m (by omega)
    by_cases h1 : E % 2 ^ n / 2 ^ (m + 1) = 0 <;> by_cases h2 : E / 2 ^ m % 2 = 1
    · have hd := decide_eq_true h2
      have hn1 : decide (E % 2 ^ n / 2 ^ (m + 1) ≠ 0) = false := decide_eq_false (by omega)
      rw [hn1]
      refine run_loop_eq v31_13.eq_1 ?_
      refine run_drive 60 ?_
      simp only [go_sem, v31_5, v31_11, v31_6, v31_8, v31_9, v31_10, hw, hr, h4, hl, hb, hd]
      refine run_call' rfl ?_
      simp only [go_sem, calV]
      refine product' hG _ _ (mod_lt' _) (mod_lt _) ?_
      refine run_drive 60 ?_
      simp only [go_sem, v31_12]
      rw [mont, ← Nat.pow_succ, hwm]
      have he : E % 2 ^ n / 2 ^ m = (E % 2 ^ n / 2 ^ (m + 1)).succ := by omega
      rw [← he]
      have hn2 : decide (E % 2 ^ n / 2 ^ m ≠ 0) = true := decide_eq_true (by omega)
      refine run_rename [0, 1, 2, 3, 4] rfl (by simp) ?_ ?_ ?_ ih
      · simp only [go_sem, hfit, ph, lc_fit, fit, ren, gmap, lw_plain, true_or, or_true]
      · simp [uniq, ph, wrB]
      · unfold pw; rw [hn2]; simp only [go_sem, fit, pw, ren, gmap, lw_plain, true_or, or_true]
    · have hd := decide_eq_false h2
      have hn1 : decide (E % 2 ^ n / 2 ^ (m + 1) ≠ 0) = false := decide_eq_false (by omega)
      rw [hn1]
      refine run_loop_eq v31_13.eq_1 ?_
      refine run_drive 60 ?_
      simp only [go_sem, v31_5, v31_11, v31_6, v31_8, v31_9, v31_10, v31_12, hw, hr, h4, hl, hb, hd, hwm]
      have he : E % 2 ^ n / 2 ^ m = E % 2 ^ n / 2 ^ (m + 1) := by omega
      rw [← he]
      have hn2 : decide (E % 2 ^ n / 2 ^ m ≠ 0) = false := decide_eq_false (by omega)
      refine run_rename [0, 1, 2, 3, 4] rfl (by simp) ?_ ?_ ?_ ih
      · simp only [go_sem, hfit, ph, lc_fit, fit, ren, gmap, lw_plain, true_or, or_true]
      · simp [uniq, ph, wrB]
      · unfold pw; rw [hn2]; simp only [go_sem, fit, pw, ren, gmap, lw_plain, true_or, or_true]
    · have hd := decide_eq_true h2
      have hn1 : decide (E % 2 ^ n / 2 ^ (m + 1) ≠ 0) = true := decide_eq_true h1
      rw [hn1]
      refine run_loop_eq v31_13.eq_1 ?_
      refine run_drive 60 ?_
      simp only [go_sem, v31_5, v31_11, v31_6, v31_7]
      refine run_call' rfl ?_
      simp only [go_sem, calV]
      refine product' hG _ _ (mod_lt' _) (mod_lt _) ?_
      rw [mont, ← Nat.pow_add]
      refine run_drive 60 ?_
      simp only [go_sem, v31_8, v31_9, v31_10, v31_12, hw, hr, h4, hl, hb, hd, hwm]
      refine run_call' rfl ?_
      simp only [go_sem, calV]
      refine product' hG _ _ (mod_lt' _) (mod_lt _) ?_
      rw [mont, ← Nat.pow_succ]
      have he : E % 2 ^ n / 2 ^ m = (E % 2 ^ n / 2 ^ (m + 1) + E % 2 ^ n / 2 ^ (m + 1)).succ := by omega
      rw [← he]
      refine run_drive 60 ?_
      simp only [go_sem, hwm]
      have hn2 : decide (E % 2 ^ n / 2 ^ m ≠ 0) = true := decide_eq_true (by omega)
      refine run_rename [0, 1, 2, 3, 4] rfl (by simp) ?_ ?_ ?_ ih
      · simp only [go_sem, hfit, ph, lc_fit, fit, ren, gmap, lw_plain, true_or, or_true]
      · simp [uniq, ph, wrB]
      · unfold pw; rw [hn2]; simp only [go_sem, fit, pw, ren, gmap, lw_plain, true_or, or_true]
    · have hd := decide_eq_false h2
      have hn1 : decide (E % 2 ^ n / 2 ^ (m + 1) ≠ 0) = true := decide_eq_true h1
      rw [hn1]
      refine run_loop_eq v31_13.eq_1 ?_
      refine run_drive 60 ?_
      simp only [go_sem, v31_5, v31_11, v31_6, v31_7]
      refine run_call' rfl ?_
      simp only [go_sem, calV]
      refine product' hG _ _ (mod_lt' _) (mod_lt _) ?_
      rw [mont, ← Nat.pow_add]
      have he : E % 2 ^ n / 2 ^ m = E % 2 ^ n / 2 ^ (m + 1) + E % 2 ^ n / 2 ^ (m + 1) := by omega
      rw [← he]
      refine run_drive 60 ?_
      simp only [go_sem, v31_8, v31_9, v31_10, v31_12, hw, hr, h4, hl, hb, hd, hwm]
      have hn2 : decide (E % 2 ^ n / 2 ^ m ≠ 0) = true := decide_eq_true (by omega)
      refine run_rename [0, 1, 2, 3, 4] rfl (by simp) ?_ ?_ ?_ ih
      · simp only [go_sem, hfit, ph, lc_fit, fit, ren, gmap, lw_plain, true_or, or_true]
      · simp [uniq, ph, wrB]
      · unfold pw; rw [hn2]; simp only [go_sem, fit, pw, ren, gmap, lw_plain, true_or, or_true]
theorem power (hG : G 0 = tbl) (A E n : Nat) (hA : A < 115792089237316195423570985008687907853269984665640564039457584007913129639936) (hE : E < 115792089237316195423570985008687907853269984665640564039457584007913129639936) (hn : n ≤ 256) (Q : V → Heap → Prop) (hQ : Q (lw (A ^ (E % 2 ^ n) % ell)) []) : VCall Tryd.prog G 31 [lw A, lw E, .int .i64 (n : Int)] [] Q := by
  refine vcall_body Tryd.func31 nm31 code31 nt31 ?_
  refine run_drive 60 ?_
  simp only [go_sem, v31, v31_0]
  refine run_drw (by kernel_rfl) ?_
  refine drun_drive 40 (p := (_, _)) ?_
  simp only [go_sem, v31_1, hG, tbl, lw_twice]
  refine drun_call' ?_
  simp only [go_sem, calV]
  refine least' hG A hA ?_
  refine drun_drive 40 (p := (_, _)) ?_
  simp only [go_sem]
  refine drun_call' ?_
  simp only [go_sem, calV]
  refine product' hG _ _ (mod_lt' A) tw_lt ?_
  rw [tw_wo, mmod]
  refine drun_drive 40 (p := (_, _)) ?_
  simp only [go_sem]
  refine drun_end ?_
  have hwm : IntKind.i64.wrap ((n : Int) - 1) = (n : Int) - 1 := wrap_i64 (by omega) (by omega)
  refine run_drive 60 ?_
  simp only [go_sem, v31_2, v31_3, v31_4, v31_14, hG, tbl, lw_once, hwm]
  have e0 : E % 2 ^ n / 2 ^ n = 0 := Nat.div_eq_of_lt (Nat.mod_lt _ (Nat.two_pow_pos n))
  have e1 : A ^ (E % 2 ^ n / 2 ^ n) * wo % ell = wo := by rw [e0, Nat.pow_zero, Nat.one_mul]; rfl
  refine run_rename [0, 1, 2, 3, 4] rfl (by simp) ?_ ?_ ?_ (power_loop hG A E n hE hn hQ n (Nat.le_refl n))
  · unfold ph; rw [e1]; simp only [go_sem, hfit, ph, lc_fit, fit, ren, gmap, lw_plain, true_or, or_true]
  · simp [uniq, ph, wrB]
  · unfold pw; rw [e0]; simp only [go_sem, fit, pw, ren, gmap, lw_plain, true_or, or_true]
theorem power' (hG : G 0 = tbl) (A E n : Nat) (hA : A < 115792089237316195423570985008687907853269984665640564039457584007913129639936) (hE : E < 115792089237316195423570985008687907853269984665640564039457584007913129639936) (hn : n ≤ 256) {h : Heap} {R : V → Heap → Prop} (hQ : R (lw (A ^ (E % 2 ^ n) % ell)) h) : VCall Tryd.prog G 31 [lw A, lw E, .int .i64 (n : Int)] h R := by
  refine vcall_plain (Q := fun v => v = lw (A ^ (E % 2 ^ n) % ell)) (power hG A E n hA hE hn _ ⟨rfl, rfl⟩) (fun g => by simp only [rens, ren, lw_plain]) ?_ ?_
  · rintro v g rfl; exact lw_plain _ g
  · rintro v rfl; exact hQ
theorem linv_ex : ∃ f : Nat → Nat, ∀ A, f A = A ^ (ell - 2) % ell := ⟨fun A => A ^ (ell - 2) % ell, fun _ => rfl⟩
noncomputable def linv : Nat → Nat := Classical.choose linv_ex
theorem linv_eq (A : Nat) : linv A = A ^ (ell - 2) % ell := Classical.choose_spec linv_ex A
theorem linv_lt (A : Nat) : linv A < ell := by rw [linv_eq]; exact mod_lt' _
theorem linv_mul {A : Nat} (h : A % ell ≠ 0) : linv A * A % ell = 1 := by
  rw [linv_eq, mmod]
  exact Pr.inv_pow Pr.p8 h
theorem invert (hG : G 0 = tbl) (A : Nat) (hA : A < 115792089237316195423570985008687907853269984665640564039457584007913129639936) (Q : V → Heap → Prop) (hQ : Q (lw (linv A)) []) : VCall Tryd.prog G 18 [lw A] [] Q := by
  refine vcall_body Tryd.func18 nm18 code18 nt18 ?_
  refine run_drive 60 ?_
  simp only [go_sem, v18, v18_0, v18_1, hG, tbl, lw_less]
  refine run_call' rfl ?_
  simp only [go_sem, calV]
  refine power' hG A (ell - 2) 253 hA (by decide) (by decide) ?_
  refine run_drive 60 ?_
  simp only [go_sem]
  refine run_ret_drop Tryd.func18 res18 [] (lw (linv A)) [] rfl (by simp) trivial (by simp [uniq]) ?_ hQ
  have e : A ^ ((ell - 2) % 2 ^ 253) % ell = linv A := by
    rw [linv_eq, Nat.mod_eq_of_lt (show ell - 2 < 2 ^ 253 by decide)]
  rw [e]
  simp only [go_sem, rr18, lw_plain]
theorem invert' (hG : G 0 = tbl) (A : Nat) (hA : A < 115792089237316195423570985008687907853269984665640564039457584007913129639936) {h : Heap} {R : V → Heap → Prop} (hQ : R (lw (linv A)) h) : VCall Tryd.prog G 18 [lw A] h R := by
  refine vcall_plain (Q := fun v => v = lw (linv A)) (invert hG A hA _ ⟨rfl, rfl⟩) (fun g => by simp only [rens, ren, lw_plain]) ?_ ?_
  · rintro v g rfl; exact lw_plain _ g
  · rintro v rfl; exact hQ
theorem is_zero' (hG : G 0 = tbl) (A : Nat) (hA : A < 115792089237316195423570985008687907853269984665640564039457584007913129639936) {h : Heap} {R : V → Heap → Prop} (hQ : R (.bool (decide (A % ell = 0))) h) : VCall Tryd.prog G 14 [lw A] h R := by
  refine vcall_plain (Q := fun v => v = .bool (decide (A % ell = 0))) (is_zero hG A hA _ ⟨rfl, rfl⟩) (fun g => by simp only [rens, ren, lw_plain]) ?_ ?_
  · rintro v g rfl; rfl
  · rintro v rfl; exact hQ
theorem int' (n : Nat) (hn : n < 18446744073709551616) {h : Heap} {R : V → Heap → Prop} (hQ : R (lw n) h) : VCall Tryd.prog G 16 [.int .u64 (n : Int)] h R := by
  refine vcall_plain (Q := fun v => v = lw n) (int_ n hn _ ⟨rfl, rfl⟩) (fun g => by simp only [rens, ren]) ?_ ?_
  · rintro v g rfl; exact lw_plain _ g
  · rintro v rfl; exact hQ
end Go.Vs.Tryd
