/- T6: what the functions of the program answer, over the machine of plain values. -/
import Derived.Test.YtaalannjlomiiaaDoorT5
import Derived.Test.YtaalannjlomiiaaDoorM3
set_option linter.unusedVariables false
set_option linter.unusedSimpArgs false
namespace Go.Vs.Tryd
open Go.Proofs
variable {G : Nat → List V}
set_option linter.unusedSimpArgs false
attribute [local go_sem] drive stepV exo expo evs fillV isNil nilKind eqV eqL optA optM sliceAtV ev kn V.known V.one ldc stc splice cellsOf asK asN asB asS asG asT appV srcV lenV setd wantV exitV rvs rv one List.length_cons List.length_nil List.cons_append List.nil_append List.append_nil List.replicate List.getD_cons_zero List.getD_cons_succ List.set_cons_zero List.set_cons_succ List.getElem?_cons_zero List.getElem?_cons_succ List.getElem?_nil List.take_succ_cons List.take_zero List.take_nil List.drop_succ_cons List.drop_zero List.drop_nil List.all_cons List.all_nil List.any_cons List.any_nil Bool.and_true Bool.true_and Bool.and_self Option.map_some Option.map_none Option.bind_some Option.some.injEq Nat.add_zero Nat.zero_add Int.toNat_zero Int.toNat_one Int.zero_add Int.add_zero if_true if_false ite_true ite_false and_true true_and and_self ne_eq not_false_eq_true not_true_eq_false decide_true decide_false Bool.false_eq_true Bool.not_true Bool.not_false beq_self_eq_true BEq.rfl Bool.not_eq_true Nat.le_refl Int.le_refl Nat.zero_le List.foldl List.map_cons List.map_nil Prod.mk.injEq Int.cast_ofNat_Int Int.zero_le_ofNat b_add_cc b_add_cl b_add_lc b_mul_cc b_mul_cl b_mul_lc b_sub_cc b_sub_cl b_sub_lc b_and_cc b_and_cl b_and_lc b_or_cc b_or_cl b_or_lc b_xor_cc b_xor_cl b_xor_lc b_andNot_cc b_andNot_cl b_andNot_lc b_shr_cc b_shr_cl b_shr_lc b_shl_cc b_shl_cl b_shl_lc b_lss b_leq b_gtr b_geq b_add_i b_sub_i b_mul_i beq_cc beq_cl beq_lc beq_ll b_quo_i b_rem_i neg_u64 wrap_i64 driveD stepD idsAt idOf maskH_nil restore_nil restore_mask List.filterMap_nil List.filterMap_cons VOp.looks VOp.makes exA
/-- What 2^256 is divided by modulo the prime. -/
def winv : Nat := 4458503529701987551646482192314240623644693141688353256590997718326214331684
theorem redc {R N x y : Nat} (hR : R < ell) (h : 115792089237316195423570985008687907853269984665640564039457584007913129639936 * R + ell * x = N + ell * y) : R = N * winv % ell := by
  have h1 : (115792089237316195423570985008687907853269984665640564039457584007913129639936 * R) % ell = N % ell := by
    rw [← Nat.add_mul_mod_self_left _ ell x, h, Nat.add_mul_mod_self_left]
  have h2 : N * winv % ell = R % ell := by
    rw [Nat.mul_mod, ← h1, ← Nat.mul_mod, Nat.mul_right_comm, Nat.mul_mod, show (115792089237316195423570985008687907853269984665640564039457584007913129639936 * winv) % ell = 1 by decide, Nat.one_mul, Nat.mod_mod]
  rw [h2, Nat.mod_eq_of_lt hR]

theorem product' (hG : G 0 = tbl) (A B : Nat) (hA : A < ell) (hB : B < 115792089237316195423570985008687907853269984665640564039457584007913129639936) {h : Heap} {R : V → Heap → Prop} (hQ : R (lw (A * B * winv % ell)) h) : VCall Tryd.prog G 22 [lw A, lw B] h R := by
  refine vcall_plain (Q := fun v => v = lw (A * B * winv % ell)) ?_ (fun g => by simp only [rens, lw_plain]) ?_ ?_
  · have hA' : A < 115792089237316195423570985008687907853269984665640564039457584007913129639936 := by unfold ell at hA; omega
    obtain ⟨a0, a1, a2, a3, ha0, ha1, ha2, ha3, ea, eA⟩ := limbs4 A hA'
    obtain ⟨b0, b1, b2, b3, hb0, hb1, hb2, hb3, eb, eB⟩ := limbs4 B hB
    rw [ea, eb]
    refine product0 hG a0 a1 a2 a3 b0 b1 b2 b3 ha0 ha1 ha2 ha3 hb0 hb1 hb2 hb3 (by rw [← eA]; exact hA) _ ?_
    rintro R hR ⟨x, y, e⟩
    refine ⟨?_, rfl⟩
    rw [← eA, ← eB] at e
    rw [redc hR e]
  · rintro v g rfl; exact lw_plain _ g
  · rintro v rfl; exact hQ
end Go.Vs.Tryd
namespace Go.Vs.Tryd
open Go.Proofs
variable {G : Nat → List V}
set_option linter.unusedSimpArgs false
attribute [local go_sem] List.length_append List.all_append ge_iff_le gt_iff_lt Int.natCast_nonneg Int.toNat_natCast Nat.mul_one b_and_ll b_shr_ll b_mul_ll b_add_ll b_or_ll b_shl_ll pick_ll pick_lc pick_bb driveS stopV drive stepV exo expo evs fillV isNil nilKind eqV eqL optA optM sliceAtV ev kn ldc stc splice appV srcV lenV setd wantV exitV rvs rv one List.length_cons List.length_nil List.cons_append List.nil_append List.append_nil List.replicate List.getD_cons_zero List.getD_cons_succ List.set_cons_zero List.set_cons_succ List.getElem?_cons_zero List.getElem?_cons_succ List.getElem?_nil List.take_succ_cons List.take_zero List.take_nil List.drop_succ_cons List.drop_zero List.drop_nil List.all_cons List.all_nil List.any_cons List.any_nil Bool.and_true Bool.true_and Bool.and_self Option.map_some Option.map_none Option.bind_some Option.some.injEq Nat.add_zero Nat.zero_add Int.toNat_zero Int.toNat_one Int.zero_add Int.add_zero if_true if_false ite_true ite_false and_true true_and and_self ne_eq not_false_eq_true not_true_eq_false decide_true decide_false Bool.false_eq_true Bool.not_true Bool.not_false beq_self_eq_true BEq.rfl Bool.not_eq_true Nat.le_refl Int.le_refl Nat.zero_le List.foldl List.map_cons List.map_nil Prod.mk.injEq Int.cast_ofNat_Int Int.zero_le_ofNat b_add_cc b_add_cl b_add_lc b_mul_cc b_mul_cl b_mul_lc b_sub_cc b_sub_cl b_sub_lc b_and_cc b_and_cl b_and_lc b_or_cc b_or_cl b_or_lc b_xor_cc b_xor_cl b_xor_lc b_andNot_cc b_andNot_cl b_andNot_lc b_shr_cc b_shr_cl b_shr_lc b_shl_cc b_shl_cl b_shl_lc b_lss b_leq b_gtr b_geq b_add_i b_sub_i b_mul_i beq_cc beq_cl beq_lc beq_ll b_quo_i b_rem_i neg_u64 wrap_i64 driveD stepD idsAt idOf maskH_nil restore_nil restore_mask List.filterMap_nil List.filterMap_cons VOp.looks VOp.makes exA cells_agg cells_int cells_bool cells_str cells_nilp cells_ptr cells_glob cells_nils cells_sl cells_nilf cells_fn cells_nili cells_ifc known_agg known_tup known_int known_bool known_str known_nilp known_ptr known_glob known_nils known_sl known_nilf known_fn known_nili known_ifc known_unk one_agg one_tup one_int one_bool one_str one_nilp one_ptr one_glob one_nils one_sl one_nilf one_fn one_nili one_ifc asK_int asN_int asB_bool asS_str asG_agg asT_tup
attribute [local go_sem ↓] lc_len lc_take lc_drop lc_known lc_one lc_rens lc_cells lw_known lw_agg lw_asG
set_option maxRecDepth 100000
set_option maxHeartbeats 1000000

theorem least' (hG : G 0 = tbl) (A : Nat) (hA : A < 115792089237316195423570985008687907853269984665640564039457584007913129639936) {h : Heap} {R : V → Heap → Prop} (hQ : R (lw (A % ell)) h) : VCall Tryd.prog G 21 [lw A] h R := by
  refine vcall_plain (Q := fun v => v = lw (A % ell)) (least hG A hA _ ⟨rfl, rfl⟩) (fun g => by simp only [rens, lw_plain]) ?_ ?_
  · rintro v g rfl; exact lw_plain _ g
  · rintro v rfl; exact hQ

/-- 2^512 modulo the prime. -/
def tw : Nat := 1627715501170711445284395025044413883736156588369414752970002579683115011841
theorem lw_twice : V.agg [.int .u64 (nl 11819153939886771969), .int .u64 (nl 14991950615390032711), .int .u64 (nl 14910419812499177061), .int .u64 (nl 259310039853996605)] = lw tw := rfl
theorem tw_lt : tw < 115792089237316195423570985008687907853269984665640564039457584007913129639936 := by decide
/-- 2^256 modulo the prime. -/
def wo : Nat := 7237005577332262213973186563042994240413239274941949949428319933631315875101
theorem lw_once : V.agg [.int .u64 (nl 15486807595281847581), .int .u64 (nl 14334777244411350896), .int .u64 (nl 18446744073709551614), .int .u64 (nl 1152921504606846975)] = lw wo := rfl
theorem lw_less : V.agg [.int .u64 (nl 6346243789798364139), .int .u64 (nl 1503914060200516822), .int .u64 (nl 0), .int .u64 (nl 1152921504606846976)] = lw (ell - 2) := rfl
theorem ell_pos : 0 < ell := by decide
theorem ell_lt : ell < 115792089237316195423570985008687907853269984665640564039457584007913129639936 := by decide
theorem mod_lt (n : Nat) : n % ell < 115792089237316195423570985008687907853269984665640564039457584007913129639936 := Nat.lt_trans (Nat.mod_lt _ ell_pos) ell_lt
theorem mod_lt' (n : Nat) : n % ell < ell := Nat.mod_lt _ ell_pos

/-- Numbers are taken modulo the prime. -/
theorem mmod (a b : Nat) : a % ell * b % ell = a * b % ell := Nat.mod_mul_mod a b ell
theorem mmod' (a b : Nat) : a * (b % ell) % ell = a * b % ell := Nat.mul_mod_mod a b ell
theorem tw_law (X : Nat) : X * winv % ell * tw * winv % ell = X % ell := by
  have h : winv * tw * winv % ell = 1 := by decide
  rw [Nat.mul_assoc (X * winv % ell), mmod, Nat.mul_assoc X, ← Nat.mul_assoc winv, Nat.mul_mod, h, Nat.mul_one, Nat.mod_mod]
theorem wo_law : wo * winv % ell = 1 := by decide
theorem tw_wo (X : Nat) : X * tw * winv % ell = X * wo % ell := by
  have h : tw * winv % ell = wo := by decide
  rw [Nat.mul_assoc, Nat.mul_mod, h, mmod]

theorem lc_eqL {A B : Nat} (hA : A < 115792089237316195423570985008687907853269984665640564039457584007913129639936) (hB : B < 115792089237316195423570985008687907853269984665640564039457584007913129639936) : eqL [.i, .i, .i, .i] (lc A) (lc B) = some (decide (A = B)) := by
  simp only [eqL, eqV, lc, u, asK, asN, if_true, beq_cc, Option.some.injEq]
  rw [Bool.eq_iff_iff]
  simp only [Bool.and_eq_true, decide_eq_true_eq, Bool.and_true]
  omega
theorem lc_small {n : Nat} (h : n < 18446744073709551616) : [V.int .u64 (n : Int), V.int .u64 (nl 0), V.int .u64 (nl 0), V.int .u64 (nl 0)] = lc n := by
  unfold lc u
  rw [show n % 18446744073709551616 = n by omega, show n / 18446744073709551616 % 18446744073709551616 = 0 by omega, show n / 340282366920938463463374607431768211456 % 18446744073709551616 = 0 by omega, show n / 6277101735386680763835789423207666416102355444464034512896 % 18446744073709551616 = 0 by omega]
  rfl

theorem mul (hG : G 0 = tbl) (A B : Nat) (hA : A < 115792089237316195423570985008687907853269984665640564039457584007913129639936) (hB : B < 115792089237316195423570985008687907853269984665640564039457584007913129639936) (Q : V → Heap → Prop) (hQ : Q (lw (A * B % ell)) []) : VCall Tryd.prog G 14 [lw A, lw B] [] Q := by
  refine vcall_body Tryd.func14 nm14 code14 nt14 ?_
  refine run_drive 60 ?_
  simp only [go_sem, Nat.reduceAdd, Nat.reduceSub, Nat.reduceLeDiff, Nat.reduceMul, Nat.reduceLT, Nat.reduceEqDiff, Int.reduceLT, Int.reduceLE, Int.reduceAdd, Int.reduceSub, Int.reduceMul, Int.reduceToNat, reduceIte, reduceCtorEq, Nat.reduceBEq, v14, v14_0]
  refine run_drw (by kernel_rfl) ?_
  refine drun_drive 40 (p := (_, _)) ?_
  simp only [go_sem, Nat.reduceAdd, Nat.reduceSub, Nat.reduceLeDiff, Nat.reduceMul, Nat.reduceLT, Nat.reduceEqDiff, Int.reduceLT, Int.reduceLE, Int.reduceAdd, Int.reduceSub, Int.reduceMul, Int.reduceToNat, reduceIte, reduceCtorEq, Nat.reduceBEq, v14_1, hG, tbl, lw_twice]
  refine drun_call' ?_
  simp only [go_sem, Nat.reduceAdd, Nat.reduceSub, Nat.reduceLeDiff, Nat.reduceMul, Nat.reduceLT, Nat.reduceEqDiff, Int.reduceLT, Int.reduceLE, Int.reduceAdd, Int.reduceSub, Int.reduceMul, Int.reduceToNat, reduceIte, reduceCtorEq, Nat.reduceBEq, calV]
  refine least' hG A hA ?_
  refine drun_drive 40 (p := (_, _)) ?_
  simp only [go_sem, Nat.reduceAdd, Nat.reduceSub, Nat.reduceLeDiff, Nat.reduceMul, Nat.reduceLT, Nat.reduceEqDiff, Int.reduceLT, Int.reduceLE, Int.reduceAdd, Int.reduceSub, Int.reduceMul, Int.reduceToNat, reduceIte, reduceCtorEq, Nat.reduceBEq]
  refine drun_call' ?_
  simp only [go_sem, Nat.reduceAdd, Nat.reduceSub, Nat.reduceLeDiff, Nat.reduceMul, Nat.reduceLT, Nat.reduceEqDiff, Int.reduceLT, Int.reduceLE, Int.reduceAdd, Int.reduceSub, Int.reduceMul, Int.reduceToNat, reduceIte, reduceCtorEq, Nat.reduceBEq, calV]
  refine least' hG B hB ?_
  refine drun_drive 40 (p := (_, _)) ?_
  simp only [go_sem, Nat.reduceAdd, Nat.reduceSub, Nat.reduceLeDiff, Nat.reduceMul, Nat.reduceLT, Nat.reduceEqDiff, Int.reduceLT, Int.reduceLE, Int.reduceAdd, Int.reduceSub, Int.reduceMul, Int.reduceToNat, reduceIte, reduceCtorEq, Nat.reduceBEq]
  refine drun_call' ?_
  simp only [go_sem, Nat.reduceAdd, Nat.reduceSub, Nat.reduceLeDiff, Nat.reduceMul, Nat.reduceLT, Nat.reduceEqDiff, Int.reduceLT, Int.reduceLE, Int.reduceAdd, Int.reduceSub, Int.reduceMul, Int.reduceToNat, reduceIte, reduceCtorEq, Nat.reduceBEq, calV]
  refine product' hG _ _ (mod_lt' A) (mod_lt B) ?_
  refine drun_drive 40 (p := (_, _)) ?_
  simp only [go_sem, Nat.reduceAdd, Nat.reduceSub, Nat.reduceLeDiff, Nat.reduceMul, Nat.reduceLT, Nat.reduceEqDiff, Int.reduceLT, Int.reduceLE, Int.reduceAdd, Int.reduceSub, Int.reduceMul, Int.reduceToNat, reduceIte, reduceCtorEq, Nat.reduceBEq]
  refine drun_call' ?_
  simp only [go_sem, Nat.reduceAdd, Nat.reduceSub, Nat.reduceLeDiff, Nat.reduceMul, Nat.reduceLT, Nat.reduceEqDiff, Int.reduceLT, Int.reduceLE, Int.reduceAdd, Int.reduceSub, Int.reduceMul, Int.reduceToNat, reduceIte, reduceCtorEq, Nat.reduceBEq, calV]
  refine product' hG _ _ (mod_lt' _) tw_lt ?_
  refine drun_drive 40 (p := (_, _)) ?_
  simp only [go_sem, Nat.reduceAdd, Nat.reduceSub, Nat.reduceLeDiff, Nat.reduceMul, Nat.reduceLT, Nat.reduceEqDiff, Int.reduceLT, Int.reduceLE, Int.reduceAdd, Int.reduceSub, Int.reduceMul, Int.reduceToNat, reduceIte, reduceCtorEq, Nat.reduceBEq]
  refine drun_end ?_
  refine run_drive 60 ?_
  simp only [go_sem, Nat.reduceAdd, Nat.reduceSub, Nat.reduceLeDiff, Nat.reduceMul, Nat.reduceLT, Nat.reduceEqDiff, Int.reduceLT, Int.reduceLE, Int.reduceAdd, Int.reduceSub, Int.reduceMul, Int.reduceToNat, reduceIte, reduceCtorEq, Nat.reduceBEq]
  refine run_ret_drop Tryd.func14 res14 [] (lw (A * B % ell)) [] rfl (by simp) trivial (by simp [uniq]) ?_ hQ
  rw [tw_law, mmod, mmod']
  simp only [go_sem, Nat.reduceAdd, Nat.reduceSub, Nat.reduceLeDiff, Nat.reduceMul, Nat.reduceLT, Nat.reduceEqDiff, Int.reduceLT, Int.reduceLE, Int.reduceAdd, Int.reduceSub, Int.reduceMul, Int.reduceToNat, reduceIte, reduceCtorEq, Nat.reduceBEq, r14, lw_plain]

theorem mul' (hG : G 0 = tbl) (A B : Nat) (hA : A < 115792089237316195423570985008687907853269984665640564039457584007913129639936) (hB : B < 115792089237316195423570985008687907853269984665640564039457584007913129639936) {h : Heap} {R : V → Heap → Prop} (hQ : R (lw (A * B % ell)) h) : VCall Tryd.prog G 14 [lw A, lw B] h R := by
  refine vcall_plain (Q := fun v => v = lw (A * B % ell)) (mul hG A B hA hB _ ⟨rfl, rfl⟩) (fun g => by simp only [rens, lw_plain]) ?_ ?_
  · rintro v g rfl; exact lw_plain _ g
  · rintro v rfl; exact hQ

theorem is_zero (hG : G 0 = tbl) (A : Nat) (hA : A < 115792089237316195423570985008687907853269984665640564039457584007913129639936) (Q : V → Heap → Prop) (hQ : Q (.bool (decide (A % ell = 0))) []) : VCall Tryd.prog G 11 [lw A] [] Q := by
  refine vcall_body Tryd.func11 nm11 code11 nt11 ?_
  refine run_drive 60 ?_
  simp only [go_sem, Nat.reduceAdd, Nat.reduceSub, Nat.reduceLeDiff, Nat.reduceMul, Nat.reduceLT, Nat.reduceEqDiff, Int.reduceLT, Int.reduceLE, Int.reduceAdd, Int.reduceSub, Int.reduceMul, Int.reduceToNat, reduceIte, reduceCtorEq, Nat.reduceBEq, v11, v11_0]
  refine run_drive 60 ?_
  simp only [go_sem, Nat.reduceAdd, Nat.reduceSub, Nat.reduceLeDiff, Nat.reduceMul, Nat.reduceLT, Nat.reduceEqDiff, Int.reduceLT, Int.reduceLE, Int.reduceAdd, Int.reduceSub, Int.reduceMul, Int.reduceToNat, reduceIte, reduceCtorEq, Nat.reduceBEq, v11_1]
  refine run_call' rfl ?_
  simp only [go_sem, Nat.reduceAdd, Nat.reduceSub, Nat.reduceLeDiff, Nat.reduceMul, Nat.reduceLT, Nat.reduceEqDiff, Int.reduceLT, Int.reduceLE, Int.reduceAdd, Int.reduceSub, Int.reduceMul, Int.reduceToNat, reduceIte, reduceCtorEq, Nat.reduceBEq, calV]
  refine least' hG A hA ?_
  refine run_drive 60 ?_
  simp only [go_sem, Nat.reduceAdd, Nat.reduceSub, Nat.reduceLeDiff, Nat.reduceMul, Nat.reduceLT, Nat.reduceEqDiff, Int.reduceLT, Int.reduceLE, Int.reduceAdd, Int.reduceSub, Int.reduceMul, Int.reduceToNat, reduceIte, reduceCtorEq, Nat.reduceBEq, lc_zero, lc_eqL (mod_lt A) (by decide : 0 < 115792089237316195423570985008687907853269984665640564039457584007913129639936)]
  refine run_ret_drop Tryd.func11 res11 [] (.bool (decide (A % ell = 0))) [] rfl (by simp) trivial (by simp [uniq]) ?_ hQ
  simp only [go_sem, Nat.reduceAdd, Nat.reduceSub, Nat.reduceLeDiff, Nat.reduceMul, Nat.reduceLT, Nat.reduceEqDiff, Int.reduceLT, Int.reduceLE, Int.reduceAdd, Int.reduceSub, Int.reduceMul, Int.reduceToNat, reduceIte, reduceCtorEq, Nat.reduceBEq, r11, ren]

theorem int_ (n : Nat) (hn : n < 18446744073709551616) (Q : V → Heap → Prop) (hQ : Q (lw n) []) : VCall Tryd.prog G 13 [.int .u64 (n : Int)] [] Q := by
  refine vcall_body Tryd.func13 nm13 code13 nt13 ?_
  refine run_drive 60 ?_
  simp only [go_sem, Nat.reduceAdd, Nat.reduceSub, Nat.reduceLeDiff, Nat.reduceMul, Nat.reduceLT, Nat.reduceEqDiff, Int.reduceLT, Int.reduceLE, Int.reduceAdd, Int.reduceSub, Int.reduceMul, Int.reduceToNat, reduceIte, reduceCtorEq, Nat.reduceBEq, v13, v13_0, v13_1]
  refine run_ret_drop Tryd.func13 res13 [] (lw n) [] rfl (by simp) trivial (by simp [uniq]) ?_ hQ
  simp only [go_sem, Nat.reduceAdd, Nat.reduceSub, Nat.reduceLeDiff, Nat.reduceMul, Nat.reduceLT, Nat.reduceEqDiff, Int.reduceLT, Int.reduceLE, Int.reduceAdd, Int.reduceSub, Int.reduceMul, Int.reduceToNat, reduceIte, reduceCtorEq, Nat.reduceBEq, r13, lw_plain, lc_small hn]

theorem ref_int (n : Nat) (hn : n < 18446744073709551616) (Q : V → Heap → Prop) (hQ : Q (lw n) []) : VCall Tryd.prog G 16 [.int .u64 (n : Int)] [] Q := by
  refine vcall_body Tryd.func16 nm16 code16 nt16 ?_
  refine run_drive 60 ?_
  simp only [go_sem, Nat.reduceAdd, Nat.reduceSub, Nat.reduceLeDiff, Nat.reduceMul, Nat.reduceLT, Nat.reduceEqDiff, Int.reduceLT, Int.reduceLE, Int.reduceAdd, Int.reduceSub, Int.reduceMul, Int.reduceToNat, reduceIte, reduceCtorEq, Nat.reduceBEq, v16, v16_0, v16_1]
  refine run_ret_drop Tryd.func16 res16 [] (lw n) [] rfl (by simp) trivial (by simp [uniq]) ?_ hQ
  simp only [go_sem, Nat.reduceAdd, Nat.reduceSub, Nat.reduceLeDiff, Nat.reduceMul, Nat.reduceLT, Nat.reduceEqDiff, Int.reduceLT, Int.reduceLE, Int.reduceAdd, Int.reduceSub, Int.reduceMul, Int.reduceToNat, reduceIte, reduceCtorEq, Nat.reduceBEq, r16, lw_plain, lc_small hn]

theorem one_ (A : Nat) (Q : V → Heap → Prop) (hQ : Q (lw 1) []) : VCall Tryd.prog G 59 [lw A] [] Q := by
  refine vcall_body Tryd.func59 nm59 code59 nt59 ?_
  refine run_drive 60 ?_
  simp only [go_sem, Nat.reduceAdd, Nat.reduceSub, Nat.reduceLeDiff, Nat.reduceMul, Nat.reduceLT, Nat.reduceEqDiff, Int.reduceLT, Int.reduceLE, Int.reduceAdd, Int.reduceSub, Int.reduceMul, Int.reduceToNat, reduceIte, reduceCtorEq, Nat.reduceBEq, v59, v59_0, v59_1]
  refine run_ret_drop Tryd.func59 res59 [] (lw 1) [] rfl (by simp) trivial (by simp [uniq]) ?_ hQ
  simp only [go_sem, Nat.reduceAdd, Nat.reduceSub, Nat.reduceLeDiff, Nat.reduceMul, Nat.reduceLT, Nat.reduceEqDiff, Int.reduceLT, Int.reduceLE, Int.reduceAdd, Int.reduceSub, Int.reduceMul, Int.reduceToNat, reduceIte, reduceCtorEq, Nat.reduceBEq, r59, lw_plain]
  rfl
end Go.Vs.Tryd
namespace Go.Vs.Tryd
open Go.Proofs
variable {G : Nat → List V}
set_option linter.unusedSimpArgs false
attribute [local go_sem] List.length_append List.all_append ge_iff_le gt_iff_lt Int.natCast_nonneg Int.toNat_natCast Nat.mul_one b_and_ll b_shr_ll b_mul_ll b_add_ll b_or_ll b_shl_ll pick_ll pick_lc pick_bb driveS stopV drive stepV exo expo evs fillV isNil nilKind eqV eqL optA optM sliceAtV ev kn ldc stc splice appV srcV lenV setd wantV exitV rvs rv one List.length_cons List.length_nil List.cons_append List.nil_append List.append_nil List.replicate List.getD_cons_zero List.getD_cons_succ List.set_cons_zero List.set_cons_succ List.getElem?_cons_zero List.getElem?_cons_succ List.getElem?_nil List.take_succ_cons List.take_zero List.take_nil List.drop_succ_cons List.drop_zero List.drop_nil List.all_cons List.all_nil List.any_cons List.any_nil Bool.and_true Bool.true_and Bool.and_self Option.map_some Option.map_none Option.bind_some Option.some.injEq Nat.add_zero Nat.zero_add Int.toNat_zero Int.toNat_one Int.zero_add Int.add_zero if_true if_false ite_true ite_false and_true true_and and_self ne_eq not_false_eq_true not_true_eq_false decide_true decide_false Bool.false_eq_true Bool.not_true Bool.not_false beq_self_eq_true BEq.rfl Bool.not_eq_true Nat.le_refl Int.le_refl Nat.zero_le List.foldl List.map_cons List.map_nil Prod.mk.injEq Int.cast_ofNat_Int Int.zero_le_ofNat b_add_cc b_add_cl b_add_lc b_mul_cc b_mul_cl b_mul_lc b_sub_cc b_sub_cl b_sub_lc b_and_cc b_and_cl b_and_lc b_or_cc b_or_cl b_or_lc b_xor_cc b_xor_cl b_xor_lc b_andNot_cc b_andNot_cl b_andNot_lc b_shr_cc b_shr_cl b_shr_lc b_shl_cc b_shl_cl b_shl_lc b_lss b_leq b_gtr b_geq b_add_i b_sub_i b_mul_i beq_cc beq_cl beq_lc beq_ll b_quo_i b_rem_i neg_u64 wrap_i64 driveD stepD idsAt idOf maskH_nil restore_nil restore_mask List.filterMap_nil List.filterMap_cons VOp.looks VOp.makes exA cells_agg cells_int cells_bool cells_str cells_nilp cells_ptr cells_glob cells_nils cells_sl cells_nilf cells_fn cells_nili cells_ifc known_agg known_tup known_int known_bool known_str known_nilp known_ptr known_glob known_nils known_sl known_nilf known_fn known_nili known_ifc known_unk one_agg one_tup one_int one_bool one_str one_nilp one_ptr one_glob one_nils one_sl one_nilf one_fn one_nili one_ifc asK_int asN_int asB_bool asS_str asG_agg asT_tup
attribute [local go_sem ↓] lc_len lc_take lc_drop lc_known lc_one lc_rens lc_cells lw_known lw_agg lw_asG
set_option maxRecDepth 100000
set_option maxHeartbeats 1000000

theorem lc_at (E k : Nat) (hk : k < 4) : ((lc E).drop k).take 1 = [.int .u64 ((E / 18446744073709551616 ^ k % 18446744073709551616 : Nat) : Int)] := by
  have : k = 0 ∨ k = 1 ∨ k = 2 ∨ k = 3 := by omega
  rcases this with rfl | rfl | rfl | rfl
  · simp only [Nat.pow_zero, Nat.div_one]; rfl
  all_goals rfl

theorem bit_law (E m : Nat) : a64 (r64 (E / 18446744073709551616 ^ (m / 64) % 18446744073709551616) (m % 64)) 1 = E / 2 ^ m % 2 := by
  unfold a64 r64
  rw [show min (m % 64) 64 = m % 64 by omega, show 1 % 18446744073709551616 = 2 ^ 1 - 1 from rfl, Nat.and_two_pow_sub_one_eq_mod, show 2 ^ 1 = 2 from rfl, show 18446744073709551616 = 2 ^ 64 from rfl]
  generalize hF : E / (2 ^ 64) ^ (m / 64) = F
  have h1 : E / 2 ^ m = F / 2 ^ (m % 64) := by
    rw [← hF, Nat.div_div_eq_div_mul, ← Nat.pow_mul, ← Nat.pow_add, Nat.div_add_mod]
  rw [h1]
  have h64 : m % 64 < 64 := Nat.mod_lt _ (by decide)
  obtain ⟨c, hc⟩ : ∃ c, 64 = m % 64 + 1 + c := ⟨64 - (m % 64 + 1), by omega⟩
  have h2 : F % 2 ^ 64 / 2 ^ (m % 64) % 2 = F / 2 ^ (m % 64) % 2 := by
    generalize m % 64 = j at *
    rw [show F % 2 ^ 64 = F % (2 ^ j * (2 * 2 ^ c)) by rw [hc, Nat.pow_add, Nat.pow_add, Nat.pow_one, Nat.mul_assoc], Nat.mod_mul_right_div_self, Nat.mod_mul_right_mod]
  rw [Nat.mod_mod_of_dvd _ (show 2 ∣ 2 ^ 64 from ⟨2 ^ 63, rfl⟩), h2]

def pw (A E n m : Nat) : List V := [lw A, lw E, .int .i64 n, .ptr 0 0, .ptr 1 0, .unk, .ptr 2 0, .ptr 3 0, .ptr 4 0, .bool (decide (E % 2 ^ n / 2 ^ m ≠ 0)), .int .i64 ((m : Int) - 1)] ++ List.replicate 32 .unk
def ph (A E n m : Nat) : Heap := [some ⟨.rw, lc A⟩, some ⟨.rw, lc E⟩, some ⟨.rw, [.int .u64 (nl 0), .int .u64 (nl 0), .int .u64 (nl 0), .int .u64 (nl 0)]⟩, some ⟨.rw, lc (A * wo % ell)⟩, some ⟨.rw, lc (A ^ (E % 2 ^ n / 2 ^ m) * wo % ell)⟩]

theorem wo_end (X : Nat) : X * wo % ell * winv % ell = X % ell := by
  rw [mmod, Nat.mul_assoc, Nat.mul_mod, wo_law, Nat.mul_one, Nat.mod_mod]
theorem mont (X Y : Nat) : X * wo % ell * (Y * wo % ell) * winv % ell = X * Y * wo % ell := by
  rw [Nat.mul_assoc, mmod, ← mmod' (X * wo) (Y * wo % ell * winv), wo_end, mmod', Nat.mul_right_comm]
theorem bits_up (E n m : Nat) (h : m < n) : E % 2 ^ n / 2 ^ m = 2 * (E % 2 ^ n / 2 ^ (m + 1)) + E / 2 ^ m % 2 := by
  have h2 : E % 2 ^ n / 2 ^ m % 2 = E / 2 ^ m % 2 := by
    obtain ⟨c, rfl⟩ : ∃ c, n = m + 1 + c := ⟨n - (m + 1), by omega⟩
    rw [show 2 ^ (m + 1 + c) = 2 ^ m * (2 * 2 ^ c) by rw [Nat.pow_add, Nat.pow_add, Nat.pow_one, Nat.mul_assoc], Nat.mod_mul_right_div_self, Nat.mod_mul_right_mod]
  rw [← h2, Nat.pow_succ, ← Nat.div_div_eq_div_mul]
  exact (Nat.div_add_mod _ 2).symm

theorem power_loop (hG : G 0 = tbl) (A E n : Nat) (hE : E < 115792089237316195423570985008687907853269984665640564039457584007913129639936) (hn : n ≤ 256) {Q : V → Heap → Prop} (hQ : Q (lw (A ^ (E % 2 ^ n) % ell)) []) : ∀ m, m ≤ n → Run Tryd.prog G 60 0 Q (.l v60_13 :: .b 0 :: .c (.seq (.reg v60_15) .ret) :: [], ⟨pw A E n m, ph A E n m⟩)
  | 0, _ => by
    unfold pw ph
    rw [Nat.pow_zero, Nat.div_one]
    refine run_loop_eq v60_13.eq_1 ?_
    refine run_drive 60 ?_
    simp only [go_sem, Nat.reduceAdd, Nat.reduceSub, Nat.reduceLeDiff, Nat.reduceMul, Nat.reduceLT, Nat.reduceEqDiff, Int.reduceLT, Int.reduceLE, Int.reduceAdd, Int.reduceSub, Int.reduceMul, Int.reduceToNat, reduceIte, reduceCtorEq, Nat.reduceBEq, v60_5, v60_15]
    refine run_call' rfl ?_
    simp only [go_sem, Nat.reduceAdd, Nat.reduceSub, Nat.reduceLeDiff, Nat.reduceMul, Nat.reduceLT, Nat.reduceEqDiff, Int.reduceLT, Int.reduceLE, Int.reduceAdd, Int.reduceSub, Int.reduceMul, Int.reduceToNat, reduceIte, reduceCtorEq, Nat.reduceBEq, calV]
    refine product' hG _ _ (mod_lt' _) (by decide : 1 < 115792089237316195423570985008687907853269984665640564039457584007913129639936) ?_
    refine run_drive 60 ?_
    simp only [go_sem, Nat.reduceAdd, Nat.reduceSub, Nat.reduceLeDiff, Nat.reduceMul, Nat.reduceLT, Nat.reduceEqDiff, Int.reduceLT, Int.reduceLE, Int.reduceAdd, Int.reduceSub, Int.reduceMul, Int.reduceToNat, reduceIte, reduceCtorEq, Nat.reduceBEq]
    refine run_ret_drop Tryd.func60 res60 [] (lw (A ^ (E % 2 ^ n) % ell)) [] rfl (by simp) trivial (by simp [uniq]) ?_ hQ
    rw [wo_end]
    simp only [go_sem, Nat.reduceAdd, Nat.reduceSub, Nat.reduceLeDiff, Nat.reduceMul, Nat.reduceLT, Nat.reduceEqDiff, Int.reduceLT, Int.reduceLE, Int.reduceAdd, Int.reduceSub, Int.reduceMul, Int.reduceToNat, reduceIte, reduceCtorEq, Nat.reduceBEq, r60, lw_plain]
  | m + 1, hm => by
    have ih := power_loop hG A E n hE hn hQ m (by omega)
    unfold pw ph
    rw [show ((m + 1 : Nat) : Int) - 1 = (m : Int) by omega]
    have hw : binI .quo .i64 (m : Int) .i64 64 = some (.int .i64 ((m / 64 : Nat) : Int)) := by
      rw [b_quo_i _ _ (by decide), show (m : Int).tdiv 64 = ((m / 64 : Nat) : Int) from (Int.ofNat_tdiv m 64).symm, wrap_i64 (by omega) (by omega)]
    have hr : binI .rem .i64 (m : Int) .i64 64 = some (.int .i64 ((m % 64 : Nat) : Int)) := by
      rw [b_rem_i _ _ (by decide), show (m : Int).tmod 64 = ((m % 64 : Nat) : Int) from (Int.ofNat_tmod m 64).symm]
    have h4 : (((m / 64 : Nat) : Int) < 4) = True := eq_true (by omega)
    have hl := lc_at E (m / 64) (by omega)
    have hb := bit_law E m
    have hwm : IntKind.i64.wrap ((m : Int) - 1) = (m : Int) - 1 := wrap_i64 (by omega) (by omega)
    have hu := bits_up E n m (by omega)
    by_cases h1 : E % 2 ^ n / 2 ^ (m + 1) = 0 <;> by_cases h2 : E / 2 ^ m % 2 = 1
    · have hd := decide_eq_true h2
      have hn1 : decide (E % 2 ^ n / 2 ^ (m + 1) ≠ 0) = false := decide_eq_false (by omega)
      rw [hn1]
      refine run_loop_eq v60_13.eq_1 ?_
      refine run_drive 60 ?_
      simp only [go_sem, Nat.reduceAdd, Nat.reduceSub, Nat.reduceLeDiff, Nat.reduceMul, Nat.reduceLT, Nat.reduceEqDiff, Int.reduceLT, Int.reduceLE, Int.reduceAdd, Int.reduceSub, Int.reduceMul, Int.reduceToNat, reduceIte, reduceCtorEq, Nat.reduceBEq, v60_5, v60_11, v60_6, v60_8, v60_9, v60_10, hw, hr, h4, hl, hb, hd]
      refine run_call' rfl ?_
      simp only [go_sem, Nat.reduceAdd, Nat.reduceSub, Nat.reduceLeDiff, Nat.reduceMul, Nat.reduceLT, Nat.reduceEqDiff, Int.reduceLT, Int.reduceLE, Int.reduceAdd, Int.reduceSub, Int.reduceMul, Int.reduceToNat, reduceIte, reduceCtorEq, Nat.reduceBEq, calV]
      refine product' hG _ _ (mod_lt' _) (mod_lt _) ?_
      refine run_drive 60 ?_
      simp only [go_sem, Nat.reduceAdd, Nat.reduceSub, Nat.reduceLeDiff, Nat.reduceMul, Nat.reduceLT, Nat.reduceEqDiff, Int.reduceLT, Int.reduceLE, Int.reduceAdd, Int.reduceSub, Int.reduceMul, Int.reduceToNat, reduceIte, reduceCtorEq, Nat.reduceBEq, v60_12]
      rw [mont, ← Nat.pow_succ, hwm]
      have he : E % 2 ^ n / 2 ^ m = (E % 2 ^ n / 2 ^ (m + 1)).succ := by omega
      rw [← he]
      have hn2 : decide (E % 2 ^ n / 2 ^ m ≠ 0) = true := decide_eq_true (by omega)
      refine run_rename [0, 1, 2, 3, 4] rfl (by simp) ?_ ?_ ?_ ih
      · simp only [go_sem, Nat.reduceAdd, Nat.reduceSub, Nat.reduceLeDiff, Nat.reduceMul, Nat.reduceLT, Nat.reduceEqDiff, Int.reduceLT, Int.reduceLE, Int.reduceAdd, Int.reduceSub, Int.reduceMul, Int.reduceToNat, reduceIte, reduceCtorEq, Nat.reduceBEq, hfit, ph, lc_fit, fit, ren, gmap, lw_plain, true_or, or_true]
      · simp [uniq, ph, wrB]
      · unfold pw; rw [hn2]; simp only [go_sem, Nat.reduceAdd, Nat.reduceSub, Nat.reduceLeDiff, Nat.reduceMul, Nat.reduceLT, Nat.reduceEqDiff, Int.reduceLT, Int.reduceLE, Int.reduceAdd, Int.reduceSub, Int.reduceMul, Int.reduceToNat, reduceIte, reduceCtorEq, Nat.reduceBEq, fit, pw, ren, gmap, lw_plain, true_or, or_true]
    · have hd := decide_eq_false h2
      have hn1 : decide (E % 2 ^ n / 2 ^ (m + 1) ≠ 0) = false := decide_eq_false (by omega)
      rw [hn1]
      refine run_loop_eq v60_13.eq_1 ?_
      refine run_drive 60 ?_
      simp only [go_sem, Nat.reduceAdd, Nat.reduceSub, Nat.reduceLeDiff, Nat.reduceMul, Nat.reduceLT, Nat.reduceEqDiff, Int.reduceLT, Int.reduceLE, Int.reduceAdd, Int.reduceSub, Int.reduceMul, Int.reduceToNat, reduceIte, reduceCtorEq, Nat.reduceBEq, v60_5, v60_11, v60_6, v60_8, v60_9, v60_10, v60_12, hw, hr, h4, hl, hb, hd, hwm]
      have he : E % 2 ^ n / 2 ^ m = E % 2 ^ n / 2 ^ (m + 1) := by omega
      rw [← he]
      have hn2 : decide (E % 2 ^ n / 2 ^ m ≠ 0) = false := decide_eq_false (by omega)
      refine run_rename [0, 1, 2, 3, 4] rfl (by simp) ?_ ?_ ?_ ih
      · simp only [go_sem, Nat.reduceAdd, Nat.reduceSub, Nat.reduceLeDiff, Nat.reduceMul, Nat.reduceLT, Nat.reduceEqDiff, Int.reduceLT, Int.reduceLE, Int.reduceAdd, Int.reduceSub, Int.reduceMul, Int.reduceToNat, reduceIte, reduceCtorEq, Nat.reduceBEq, hfit, ph, lc_fit, fit, ren, gmap, lw_plain, true_or, or_true]
      · simp [uniq, ph, wrB]
      · unfold pw; rw [hn2]; simp only [go_sem, Nat.reduceAdd, Nat.reduceSub, Nat.reduceLeDiff, Nat.reduceMul, Nat.reduceLT, Nat.reduceEqDiff, Int.reduceLT, Int.reduceLE, Int.reduceAdd, Int.reduceSub, Int.reduceMul, Int.reduceToNat, reduceIte, reduceCtorEq, Nat.reduceBEq, fit, pw, ren, gmap, lw_plain, true_or, or_true]
    · have hd := decide_eq_true h2
      have hn1 : decide (E % 2 ^ n / 2 ^ (m + 1) ≠ 0) = true := decide_eq_true h1
      rw [hn1]
      refine run_loop_eq v60_13.eq_1 ?_
      refine run_drive 60 ?_
      simp only [go_sem, Nat.reduceAdd, Nat.reduceSub, Nat.reduceLeDiff, Nat.reduceMul, Nat.reduceLT, Nat.reduceEqDiff, Int.reduceLT, Int.reduceLE, Int.reduceAdd, Int.reduceSub, Int.reduceMul, Int.reduceToNat, reduceIte, reduceCtorEq, Nat.reduceBEq, v60_5, v60_11, v60_6, v60_7]
      refine run_call' rfl ?_
      simp only [go_sem, Nat.reduceAdd, Nat.reduceSub, Nat.reduceLeDiff, Nat.reduceMul, Nat.reduceLT, Nat.reduceEqDiff, Int.reduceLT, Int.reduceLE, Int.reduceAdd, Int.reduceSub, Int.reduceMul, Int.reduceToNat, reduceIte, reduceCtorEq, Nat.reduceBEq, calV]
      refine product' hG _ _ (mod_lt' _) (mod_lt _) ?_
      rw [mont, ← Nat.pow_add]
      refine run_drive 60 ?_
      simp only [go_sem, Nat.reduceAdd, Nat.reduceSub, Nat.reduceLeDiff, Nat.reduceMul, Nat.reduceLT, Nat.reduceEqDiff, Int.reduceLT, Int.reduceLE, Int.reduceAdd, Int.reduceSub, Int.reduceMul, Int.reduceToNat, reduceIte, reduceCtorEq, Nat.reduceBEq, v60_8, v60_9, v60_10, v60_12, hw, hr, h4, hl, hb, hd, hwm]
      refine run_call' rfl ?_
      simp only [go_sem, Nat.reduceAdd, Nat.reduceSub, Nat.reduceLeDiff, Nat.reduceMul, Nat.reduceLT, Nat.reduceEqDiff, Int.reduceLT, Int.reduceLE, Int.reduceAdd, Int.reduceSub, Int.reduceMul, Int.reduceToNat, reduceIte, reduceCtorEq, Nat.reduceBEq, calV]
      refine product' hG _ _ (mod_lt' _) (mod_lt _) ?_
      rw [mont, ← Nat.pow_succ]
      have he : E % 2 ^ n / 2 ^ m = (E % 2 ^ n / 2 ^ (m + 1) + E % 2 ^ n / 2 ^ (m + 1)).succ := by omega
      rw [← he]
      refine run_drive 60 ?_
      simp only [go_sem, Nat.reduceAdd, Nat.reduceSub, Nat.reduceLeDiff, Nat.reduceMul, Nat.reduceLT, Nat.reduceEqDiff, Int.reduceLT, Int.reduceLE, Int.reduceAdd, Int.reduceSub, Int.reduceMul, Int.reduceToNat, reduceIte, reduceCtorEq, Nat.reduceBEq, hwm]
      have hn2 : decide (E % 2 ^ n / 2 ^ m ≠ 0) = true := decide_eq_true (by omega)
      refine run_rename [0, 1, 2, 3, 4] rfl (by simp) ?_ ?_ ?_ ih
      · simp only [go_sem, Nat.reduceAdd, Nat.reduceSub, Nat.reduceLeDiff, Nat.reduceMul, Nat.reduceLT, Nat.reduceEqDiff, Int.reduceLT, Int.reduceLE, Int.reduceAdd, Int.reduceSub, Int.reduceMul, Int.reduceToNat, reduceIte, reduceCtorEq, Nat.reduceBEq, hfit, ph, lc_fit, fit, ren, gmap, lw_plain, true_or, or_true]
      · simp [uniq, ph, wrB]
      · unfold pw; rw [hn2]; simp only [go_sem, Nat.reduceAdd, Nat.reduceSub, Nat.reduceLeDiff, Nat.reduceMul, Nat.reduceLT, Nat.reduceEqDiff, Int.reduceLT, Int.reduceLE, Int.reduceAdd, Int.reduceSub, Int.reduceMul, Int.reduceToNat, reduceIte, reduceCtorEq, Nat.reduceBEq, fit, pw, ren, gmap, lw_plain, true_or, or_true]
    · have hd := decide_eq_false h2
      have hn1 : decide (E % 2 ^ n / 2 ^ (m + 1) ≠ 0) = true := decide_eq_true h1
      rw [hn1]
      refine run_loop_eq v60_13.eq_1 ?_
      refine run_drive 60 ?_
      simp only [go_sem, Nat.reduceAdd, Nat.reduceSub, Nat.reduceLeDiff, Nat.reduceMul, Nat.reduceLT, Nat.reduceEqDiff, Int.reduceLT, Int.reduceLE, Int.reduceAdd, Int.reduceSub, Int.reduceMul, Int.reduceToNat, reduceIte, reduceCtorEq, Nat.reduceBEq, v60_5, v60_11, v60_6, v60_7]
      refine run_call' rfl ?_
      simp only [go_sem, Nat.reduceAdd, Nat.reduceSub, Nat.reduceLeDiff, Nat.reduceMul, Nat.reduceLT, Nat.reduceEqDiff, Int.reduceLT, Int.reduceLE, Int.reduceAdd, Int.reduceSub, Int.reduceMul, Int.reduceToNat, reduceIte, reduceCtorEq, Nat.reduceBEq, calV]
      refine product' hG _ _ (mod_lt' _) (mod_lt _) ?_
      rw [mont, ← Nat.pow_add]
      have he : E % 2 ^ n / 2 ^ m = E % 2 ^ n / 2 ^ (m + 1) + E % 2 ^ n / 2 ^ (m + 1) := by omega
      rw [← he]
      refine run_drive 60 ?_
      simp only [go_sem, Nat.reduceAdd, Nat.reduceSub, Nat.reduceLeDiff, Nat.reduceMul, Nat.reduceLT, Nat.reduceEqDiff, Int.reduceLT, Int.reduceLE, Int.reduceAdd, Int.reduceSub, Int.reduceMul, Int.reduceToNat, reduceIte, reduceCtorEq, Nat.reduceBEq, v60_8, v60_9, v60_10, v60_12, hw, hr, h4, hl, hb, hd, hwm]
      have hn2 : decide (E % 2 ^ n / 2 ^ m ≠ 0) = true := decide_eq_true (by omega)
      refine run_rename [0, 1, 2, 3, 4] rfl (by simp) ?_ ?_ ?_ ih
      · simp only [go_sem, Nat.reduceAdd, Nat.reduceSub, Nat.reduceLeDiff, Nat.reduceMul, Nat.reduceLT, Nat.reduceEqDiff, Int.reduceLT, Int.reduceLE, Int.reduceAdd, Int.reduceSub, Int.reduceMul, Int.reduceToNat, reduceIte, reduceCtorEq, Nat.reduceBEq, hfit, ph, lc_fit, fit, ren, gmap, lw_plain, true_or, or_true]
      · simp [uniq, ph, wrB]
      · unfold pw; rw [hn2]; simp only [go_sem, Nat.reduceAdd, Nat.reduceSub, Nat.reduceLeDiff, Nat.reduceMul, Nat.reduceLT, Nat.reduceEqDiff, Int.reduceLT, Int.reduceLE, Int.reduceAdd, Int.reduceSub, Int.reduceMul, Int.reduceToNat, reduceIte, reduceCtorEq, Nat.reduceBEq, fit, pw, ren, gmap, lw_plain, true_or, or_true]

theorem power (hG : G 0 = tbl) (A E n : Nat) (hA : A < 115792089237316195423570985008687907853269984665640564039457584007913129639936) (hE : E < 115792089237316195423570985008687907853269984665640564039457584007913129639936) (hn : n ≤ 256) (Q : V → Heap → Prop) (hQ : Q (lw (A ^ (E % 2 ^ n) % ell)) []) : VCall Tryd.prog G 60 [lw A, lw E, .int .i64 (n : Int)] [] Q := by
  refine vcall_body Tryd.func60 nm60 code60 nt60 ?_
  refine run_drive 60 ?_
  simp only [go_sem, Nat.reduceAdd, Nat.reduceSub, Nat.reduceLeDiff, Nat.reduceMul, Nat.reduceLT, Nat.reduceEqDiff, Int.reduceLT, Int.reduceLE, Int.reduceAdd, Int.reduceSub, Int.reduceMul, Int.reduceToNat, reduceIte, reduceCtorEq, Nat.reduceBEq, v60, v60_0]
  refine run_drw (by kernel_rfl) ?_
  refine drun_drive 40 (p := (_, _)) ?_
  simp only [go_sem, Nat.reduceAdd, Nat.reduceSub, Nat.reduceLeDiff, Nat.reduceMul, Nat.reduceLT, Nat.reduceEqDiff, Int.reduceLT, Int.reduceLE, Int.reduceAdd, Int.reduceSub, Int.reduceMul, Int.reduceToNat, reduceIte, reduceCtorEq, Nat.reduceBEq, v60_1, hG, tbl, lw_twice]
  refine drun_call' ?_
  simp only [go_sem, Nat.reduceAdd, Nat.reduceSub, Nat.reduceLeDiff, Nat.reduceMul, Nat.reduceLT, Nat.reduceEqDiff, Int.reduceLT, Int.reduceLE, Int.reduceAdd, Int.reduceSub, Int.reduceMul, Int.reduceToNat, reduceIte, reduceCtorEq, Nat.reduceBEq, calV]
  refine least' hG A hA ?_
  refine drun_drive 40 (p := (_, _)) ?_
  simp only [go_sem, Nat.reduceAdd, Nat.reduceSub, Nat.reduceLeDiff, Nat.reduceMul, Nat.reduceLT, Nat.reduceEqDiff, Int.reduceLT, Int.reduceLE, Int.reduceAdd, Int.reduceSub, Int.reduceMul, Int.reduceToNat, reduceIte, reduceCtorEq, Nat.reduceBEq]
  refine drun_call' ?_
  simp only [go_sem, Nat.reduceAdd, Nat.reduceSub, Nat.reduceLeDiff, Nat.reduceMul, Nat.reduceLT, Nat.reduceEqDiff, Int.reduceLT, Int.reduceLE, Int.reduceAdd, Int.reduceSub, Int.reduceMul, Int.reduceToNat, reduceIte, reduceCtorEq, Nat.reduceBEq, calV]
  refine product' hG _ _ (mod_lt' A) tw_lt ?_
  rw [tw_wo, mmod]
  refine drun_drive 40 (p := (_, _)) ?_
  simp only [go_sem, Nat.reduceAdd, Nat.reduceSub, Nat.reduceLeDiff, Nat.reduceMul, Nat.reduceLT, Nat.reduceEqDiff, Int.reduceLT, Int.reduceLE, Int.reduceAdd, Int.reduceSub, Int.reduceMul, Int.reduceToNat, reduceIte, reduceCtorEq, Nat.reduceBEq]
  refine drun_end ?_
  have hwm : IntKind.i64.wrap ((n : Int) - 1) = (n : Int) - 1 := wrap_i64 (by omega) (by omega)
  refine run_drive 60 ?_
  simp only [go_sem, Nat.reduceAdd, Nat.reduceSub, Nat.reduceLeDiff, Nat.reduceMul, Nat.reduceLT, Nat.reduceEqDiff, Int.reduceLT, Int.reduceLE, Int.reduceAdd, Int.reduceSub, Int.reduceMul, Int.reduceToNat, reduceIte, reduceCtorEq, Nat.reduceBEq, v60_2, v60_3, v60_4, v60_14, hG, tbl, lw_once, hwm]
  have e0 : E % 2 ^ n / 2 ^ n = 0 := Nat.div_eq_of_lt (Nat.mod_lt _ (Nat.two_pow_pos n))
  have e1 : A ^ (E % 2 ^ n / 2 ^ n) * wo % ell = wo := by rw [e0, Nat.pow_zero, Nat.one_mul]; rfl
  refine run_rename [0, 1, 2, 3, 4] rfl (by simp) ?_ ?_ ?_ (power_loop hG A E n hE hn hQ n (Nat.le_refl n))
  · unfold ph; rw [e1]; simp only [go_sem, Nat.reduceAdd, Nat.reduceSub, Nat.reduceLeDiff, Nat.reduceMul, Nat.reduceLT, Nat.reduceEqDiff, Int.reduceLT, Int.reduceLE, Int.reduceAdd, Int.reduceSub, Int.reduceMul, Int.reduceToNat, reduceIte, reduceCtorEq, Nat.reduceBEq, hfit, ph, lc_fit, fit, ren, gmap, lw_plain, true_or, or_true]
  · simp [uniq, ph, wrB]
  · unfold pw; rw [e0]; simp only [go_sem, Nat.reduceAdd, Nat.reduceSub, Nat.reduceLeDiff, Nat.reduceMul, Nat.reduceLT, Nat.reduceEqDiff, Int.reduceLT, Int.reduceLE, Int.reduceAdd, Int.reduceSub, Int.reduceMul, Int.reduceToNat, reduceIte, reduceCtorEq, Nat.reduceBEq, fit, pw, ren, gmap, lw_plain, true_or, or_true]

theorem power' (hG : G 0 = tbl) (A E n : Nat) (hA : A < 115792089237316195423570985008687907853269984665640564039457584007913129639936) (hE : E < 115792089237316195423570985008687907853269984665640564039457584007913129639936) (hn : n ≤ 256) {h : Heap} {R : V → Heap → Prop} (hQ : R (lw (A ^ (E % 2 ^ n) % ell)) h) : VCall Tryd.prog G 60 [lw A, lw E, .int .i64 (n : Int)] h R := by
  refine vcall_plain (Q := fun v => v = lw (A ^ (E % 2 ^ n) % ell)) (power hG A E n hA hE hn _ ⟨rfl, rfl⟩) (fun g => by simp only [rens, ren, lw_plain]) ?_ ?_
  · rintro v g rfl; exact lw_plain _ g
  · rintro v rfl; exact hQ

/-- What Fermat's law divides by. -/
theorem linv_ex : ∃ f : Nat → Nat, ∀ A, f A = A ^ (ell - 2) % ell := ⟨fun A => A ^ (ell - 2) % ell, fun _ => rfl⟩
noncomputable def linv : Nat → Nat := Classical.choose linv_ex
theorem linv_eq (A : Nat) : linv A = A ^ (ell - 2) % ell := Classical.choose_spec linv_ex A
theorem linv_lt (A : Nat) : linv A < ell := by rw [linv_eq]; exact mod_lt' _
theorem linv_mul {A : Nat} (h : A % ell ≠ 0) : linv A * A % ell = 1 := by
  rw [linv_eq, mmod]
  exact Pr.inv_pow Pr.p8 h
theorem linv_zero {A : Nat} (h : A % ell = 0) : linv A = 0 := by
  rw [linv_eq, Nat.pow_mod, h, Nat.zero_pow (by decide), Nat.zero_mod]
theorem linv_of {A x : Nat} (hx : x < ell) (h : x * A % ell = 1) : x = linv A := by
  have hA : A % ell ≠ 0 := by
    intro e
    rw [Nat.mul_mod, e, Nat.mul_zero, Nat.zero_mod] at h
    cases h
  have := Pr.inv_unique h (linv_mul hA)
  rw [Nat.mod_eq_of_lt hx, Nat.mod_eq_of_lt (linv_lt A)] at this
  exact this

theorem invert (hG : G 0 = tbl) (A : Nat) (hA : A < 115792089237316195423570985008687907853269984665640564039457584007913129639936) (Q : V → Heap → Prop) (hQ : Q (lw (linv A)) []) : VCall Tryd.prog G 58 [lw A] [] Q := by
  refine vcall_body Tryd.func58 nm58 code58 nt58 ?_
  refine run_drive 60 ?_
  simp only [go_sem, Nat.reduceAdd, Nat.reduceSub, Nat.reduceLeDiff, Nat.reduceMul, Nat.reduceLT, Nat.reduceEqDiff, Int.reduceLT, Int.reduceLE, Int.reduceAdd, Int.reduceSub, Int.reduceMul, Int.reduceToNat, reduceIte, reduceCtorEq, Nat.reduceBEq, v58, v58_0, v58_1, hG, tbl, lw_less]
  refine run_call' rfl ?_
  simp only [go_sem, Nat.reduceAdd, Nat.reduceSub, Nat.reduceLeDiff, Nat.reduceMul, Nat.reduceLT, Nat.reduceEqDiff, Int.reduceLT, Int.reduceLE, Int.reduceAdd, Int.reduceSub, Int.reduceMul, Int.reduceToNat, reduceIte, reduceCtorEq, Nat.reduceBEq, calV]
  refine power' hG A (ell - 2) 253 hA (by decide) (by decide) ?_
  refine run_drive 60 ?_
  simp only [go_sem, Nat.reduceAdd, Nat.reduceSub, Nat.reduceLeDiff, Nat.reduceMul, Nat.reduceLT, Nat.reduceEqDiff, Int.reduceLT, Int.reduceLE, Int.reduceAdd, Int.reduceSub, Int.reduceMul, Int.reduceToNat, reduceIte, reduceCtorEq, Nat.reduceBEq]
  refine run_ret_drop Tryd.func58 res58 [] (lw (linv A)) [] rfl (by simp) trivial (by simp [uniq]) ?_ hQ
  have e : A ^ ((ell - 2) % 2 ^ 253) % ell = linv A := by
    rw [linv_eq, Nat.mod_eq_of_lt (show ell - 2 < 2 ^ 253 by decide)]
  rw [e]
  simp only [go_sem, Nat.reduceAdd, Nat.reduceSub, Nat.reduceLeDiff, Nat.reduceMul, Nat.reduceLT, Nat.reduceEqDiff, Int.reduceLT, Int.reduceLE, Int.reduceAdd, Int.reduceSub, Int.reduceMul, Int.reduceToNat, reduceIte, reduceCtorEq, Nat.reduceBEq, r58, lw_plain]

theorem invert' (hG : G 0 = tbl) (A : Nat) (hA : A < 115792089237316195423570985008687907853269984665640564039457584007913129639936) {h : Heap} {R : V → Heap → Prop} (hQ : R (lw (linv A)) h) : VCall Tryd.prog G 58 [lw A] h R := by
  refine vcall_plain (Q := fun v => v = lw (linv A)) (invert hG A hA _ ⟨rfl, rfl⟩) (fun g => by simp only [rens, ren, lw_plain]) ?_ ?_
  · rintro v g rfl; exact lw_plain _ g
  · rintro v rfl; exact hQ
theorem is_zero' (hG : G 0 = tbl) (A : Nat) (hA : A < 115792089237316195423570985008687907853269984665640564039457584007913129639936) {h : Heap} {R : V → Heap → Prop} (hQ : R (.bool (decide (A % ell = 0))) h) : VCall Tryd.prog G 11 [lw A] h R := by
  refine vcall_plain (Q := fun v => v = .bool (decide (A % ell = 0))) (is_zero hG A hA _ ⟨rfl, rfl⟩) (fun g => by simp only [rens, ren, lw_plain]) ?_ ?_
  · rintro v g rfl; rfl
  · rintro v rfl; exact hQ
theorem one' (A : Nat) {h : Heap} {R : V → Heap → Prop} (hQ : R (lw 1) h) : VCall Tryd.prog G 59 [lw A] h R := by
  refine vcall_plain (Q := fun v => v = lw 1) (one_ A _ ⟨rfl, rfl⟩) (fun g => by simp only [rens, ren, lw_plain]) ?_ ?_
  · rintro v g rfl; exact lw_plain _ g
  · rintro v rfl; exact hQ
theorem int' (n : Nat) (hn : n < 18446744073709551616) {h : Heap} {R : V → Heap → Prop} (hQ : R (lw n) h) : VCall Tryd.prog G 13 [.int .u64 (n : Int)] h R := by
  refine vcall_plain (Q := fun v => v = lw n) (int_ n hn _ ⟨rfl, rfl⟩) (fun g => by simp only [rens, ren]) ?_ ?_
  · rintro v g rfl; exact lw_plain _ g
  · rintro v rfl; exact hQ
theorem ref_int' (n : Nat) (hn : n < 18446744073709551616) {h : Heap} {R : V → Heap → Prop} (hQ : R (lw n) h) : VCall Tryd.prog G 16 [.int .u64 (n : Int)] h R := by
  refine vcall_plain (Q := fun v => v = lw n) (ref_int n hn _ ⟨rfl, rfl⟩) (fun g => by simp only [rens, ren]) ?_ ?_
  · rintro v g rfl; exact lw_plain _ g
  · rintro v rfl; exact hQ
end Go.Vs.Tryd
