/- Text 7 of 10 of this claim: a machine of plain values beside the model, what the functions of the program and of the reference answer over it, and last the row and its card. -/
import Derived.Test.YtebekndmhgmfbaaDoorRK6
set_option linter.unusedVariables false
set_option linter.unusedSimpArgs false
namespace Go.Vs.Tryd
open Go.Proofs
variable {G : Nat → List V}
set_option linter.unusedSimpArgs false
attribute [local go_sem] lenO_nils lenO_sl sliceAtV Int.sub_zero List.length_append List.all_append ge_iff_le gt_iff_lt Int.natCast_nonneg Int.toNat_natCast Nat.mul_one b_and_ll b_shr_ll b_mul_ll b_add_ll b_or_ll b_shl_ll pick_ll pick_lc pick_bb driveS stopV Option.isSome_some Option.isSome_none Kind.m Kind.w Kind.g look_ro look_rw look_grow drive stepV exo expo evs fillV isNil nilKind eqV eqL optA optM sliceAtV ev kn ldc stc splice appV srcV lenV setd wantV exitV rvs rv one List.length_cons List.length_nil List.cons_append List.nil_append List.append_nil List.replicate List.getD_cons_zero List.getD_cons_succ List.set_cons_zero List.set_cons_succ List.getElem?_cons_zero List.getElem?_cons_succ List.getElem?_nil List.take_succ_cons List.take_zero List.take_nil List.drop_succ_cons List.drop_zero List.drop_nil List.all_cons List.all_nil List.any_cons List.any_nil Bool.and_true Bool.true_and Bool.and_self Option.map_some Option.map_none Option.bind_some Option.some.injEq Nat.add_zero Nat.zero_add Int.toNat_zero Int.toNat_one Int.zero_add Int.add_zero if_true if_false ite_true ite_false and_true true_and and_self ne_eq not_false_eq_true not_true_eq_false decide_true decide_false Bool.false_eq_true Bool.not_true Bool.not_false beq_self_eq_true BEq.rfl Bool.not_eq_true Nat.le_refl Int.le_refl Nat.zero_le List.foldl List.map_cons List.map_nil Prod.mk.injEq Int.cast_ofNat_Int Int.zero_le_ofNat b_add_cc b_add_cl b_add_lc b_mul_cc b_mul_cl b_mul_lc b_sub_cc b_sub_cl b_sub_lc b_and_cc b_and_cl b_and_lc b_or_cc b_or_cl b_or_lc b_xor_cc b_xor_cl b_xor_lc b_andNot_cc b_andNot_cl b_andNot_lc b_shr_cc b_shr_cl b_shr_lc b_shl_cc b_shl_cl b_shl_lc b_lss b_leq b_gtr b_geq b_add_i b_sub_i b_mul_i beq_cc beq_cl beq_lc beq_ll b_quo_i b_rem_i neg_u64 wrap_i64 driveD stepD idsAt idOf maskH_nil restore_nil restore_mask List.filterMap_nil List.filterMap_cons VOp.looks VOp.makes exA cells_agg cells_int cells_bool cells_str cells_nilp cells_ptr cells_glob cells_nils cells_sl cells_nilf cells_fn cells_nili cells_ifc known_agg known_tup known_int known_bool known_str known_nilp known_ptr known_glob known_nils known_sl known_nilf known_fn known_nili known_ifc known_unk one_agg one_tup one_int one_bool one_str one_nilp one_ptr one_glob one_nils one_sl one_nilf one_fn one_nili one_ifc asK_int asN_int asB_bool asS_str asG_agg asT_tup
attribute [local go_sem_proc] Nat.reduceAdd Nat.reduceSub Nat.reduceLeDiff Nat.reduceMul Nat.reduceLT Nat.reduceEqDiff Int.reduceLT Int.reduceLE Int.reduceAdd Int.reduceSub Int.reduceMul Int.reduceToNat reduceIte reduceCtorEq Nat.reduceBEq
section
attribute [local go_sem ↓] lc_len lc_take lc_drop lc_known lc_one lc_rens lc_cells lw_known lw_agg lw_asG
set_option maxRecDepth 100000
set_option maxHeartbeats 1000000
theorem ref_l {h : Heap} {R : V → Heap → Prop} (hQ : R (lw ell) h) : VCall Tryd.prog G 50 [] h R := by
  refine vcall_plain (Q := fun v => v = lw ell) ?_ (fun g => by simp only [rens]) ?_ ?_
  · refine vcall_body Tryd.func50 nm50 code50 nt50 ?_
    refine run_driveS 80 ?_
    simp only [go_sem, v50, v50_0, v50_1]
    refine run_ret_drop Tryd.func50 res50 [] (lw ell) [] rfl (by simp) trivial (by simp [uniq]) ?_ ⟨rfl, rfl⟩
    simp only [go_sem, rr50, lw_plain]
    rfl
  · rintro v g rfl; exact lw_plain _ g
  · rintro v rfl; exact hQ
theorem ref_zero (A : Nat) (hA : A < 115792089237316195423570985008687907853269984665640564039457584007913129639936) {h : Heap} {R : V → Heap → Prop} (hQ : R (.bool (decide (A = 0))) h) : VCall Tryd.prog G 47 [lw A] h R := by
  refine vcall_plain (Q := fun v => v = .bool (decide (A = 0))) ?_ (fun g => by simp only [rens, lw_plain]) ?_ ?_
  · refine vcall_body Tryd.func47 nm47 code47 nt47 ?_
    refine run_driveS 80 ?_
    simp only [go_sem, v47, v47_0, v47_1, lc_zero, lc_eqL hA (by decide : 0 < 115792089237316195423570985008687907853269984665640564039457584007913129639936)]
    refine run_ret_drop Tryd.func47 res47 [] (.bool (decide (A = 0))) [] rfl (by simp) trivial (by simp [uniq]) ?_ ⟨rfl, rfl⟩
    simp only [go_sem, rr47, ren]
  · rintro v g rfl; rfl
  · rintro v rfl; exact hQ
theorem lt_nat (a b : Nat) : decide ((a : Int) < (b : Int)) = decide (a < b) := by
  rw [Bool.eq_iff_iff]; simp
theorem lt_natl (a b : Nat) : decide ((a : Int) < nl b) = decide (a < b) := lt_nat a b
theorem lt_lnat (a b : Nat) : decide (nl a < (b : Int)) = decide (a < b) := lt_nat a b
theorem lt_ll (a b : Nat) : decide (nl a < nl b) = decide (a < b) := lt_nat a b
attribute [local go_sem] lt_nat lt_natl lt_lnat lt_ll
theorem ref_below (A B : Nat) (hA : A < 115792089237316195423570985008687907853269984665640564039457584007913129639936) (hB : B < 115792089237316195423570985008687907853269984665640564039457584007913129639936) {h : Heap} {R : V → Heap → Prop} (hQ : R (.bool (decide (A < B))) h) : VCall Tryd.prog G 49 [lw A, lw B] h R := by
  refine vcall_plain (Q := fun v => v = .bool (decide (A < B))) ?_ (fun g => by simp only [rens, lw_plain]) ?_ ?_
  · obtain ⟨a0, a1, a2, a3, ha0, ha1, ha2, ha3, ea, eA⟩ := limbs A
    obtain ⟨b0, b1, b2, b3, hb0, hb1, hb2, hb3, eb, eB⟩ := limbs B
    have eA := eA hA
    have eB := eB hB
    rw [ea, eb]
    refine vcall_body Tryd.func49 nm49 code49 nt49 ?_
    refine run_driveS 80 ?_
    simp only [go_sem, v49, v49_0, v49_1, v49_8]
    refine run_loop_eq v49_7.eq_1 ?_
    refine run_driveS 80 ?_
    simp only [go_sem, v49_2, v49_5]
    refine run_drw (by kernel_rfl) ?_
    refine drun_drive 40 (p := (_, _)) ?_
    simp only [go_sem, v49_3]
    refine drun_end ?_
    refine run_driveS 80 ?_
    simp only [go_sem]
    rcases Decidable.em (¬ a3 = b3) with h3 | h3'
    · refine run_cond_t (by simp only [go_sem, decide_eq_false h3]) ?_
      refine run_driveS 80 ?_
      simp only [go_sem]
      refine run_drw (by kernel_rfl) ?_
      refine drun_drive 40 (p := (_, _)) ?_
      simp only [go_sem, v49_4, lt_nat]
      refine drun_end ?_
      refine run_driveS 80 ?_
      simp only [go_sem]
      refine run_ret_drop Tryd.func49 res49 [] (.bool (decide (A < B))) [] rfl (by simp) trivial (by simp [uniq]) ?_ ⟨rfl, rfl⟩
      have e : decide (a3 < b3) = decide (A < B) := by
        rw [decide_eq_decide]
        omega
      simp only [go_sem, rr49, ren, e]
    obtain rfl := Decidable.not_not.1 h3'
    refine run_cond_f (by simp only [go_sem]) ?_
    refine run_driveS 80 ?_
    simp only [go_sem, v49_6]
    refine run_loop_eq v49_7.eq_1 ?_
    refine run_driveS 80 ?_
    simp only [go_sem, v49_2, v49_5]
    refine run_drw (by kernel_rfl) ?_
    refine drun_drive 40 (p := (_, _)) ?_
    simp only [go_sem, v49_3]
    refine drun_end ?_
    refine run_driveS 80 ?_
    simp only [go_sem]
    rcases Decidable.em (¬ a2 = b2) with h2 | h2'
    · refine run_cond_t (by simp only [go_sem, decide_eq_false h2]) ?_
      refine run_driveS 80 ?_
      simp only [go_sem]
      refine run_drw (by kernel_rfl) ?_
      refine drun_drive 40 (p := (_, _)) ?_
      simp only [go_sem, v49_4, lt_nat]
      refine drun_end ?_
      refine run_driveS 80 ?_
      simp only [go_sem]
      refine run_ret_drop Tryd.func49 res49 [] (.bool (decide (A < B))) [] rfl (by simp) trivial (by simp [uniq]) ?_ ⟨rfl, rfl⟩
      have e : decide (a2 < b2) = decide (A < B) := by
        rw [decide_eq_decide]
        omega
      simp only [go_sem, rr49, ren, e]
    obtain rfl := Decidable.not_not.1 h2'
    refine run_cond_f (by simp only [go_sem]) ?_
    refine run_driveS 80 ?_
    simp only [go_sem, v49_6]
    refine run_loop_eq v49_7.eq_1 ?_
    refine run_driveS 80 ?_
    simp only [go_sem, v49_2, v49_5]
    refine run_drw (by kernel_rfl) ?_
    refine drun_drive 40 (p := (_, _)) ?_
    simp only [go_sem, v49_3]
    refine drun_end ?_
    refine run_driveS 80 ?_
    simp only [go_sem]
    rcases Decidable.em (¬ a1 = b1) with h1 | h1'
    · refine run_cond_t (by simp only [go_sem, decide_eq_false h1]) ?_
      refine run_driveS 80 ?_
      simp only [go_sem]
      refine run_drw (by kernel_rfl) ?_
      refine drun_drive 40 (p := (_, _)) ?_
      simp only [go_sem, v49_4, lt_nat]
      refine drun_end ?_
      refine run_driveS 80 ?_
      simp only [go_sem]
      refine run_ret_drop Tryd.func49 res49 [] (.bool (decide (A < B))) [] rfl (by simp) trivial (by simp [uniq]) ?_ ⟨rfl, rfl⟩
      have e : decide (a1 < b1) = decide (A < B) := by
        rw [decide_eq_decide]
        omega
      simp only [go_sem, rr49, ren, e]
    obtain rfl := Decidable.not_not.1 h1'
    refine run_cond_f (by simp only [go_sem]) ?_
    refine run_driveS 80 ?_
    simp only [go_sem, v49_6]
    refine run_loop_eq v49_7.eq_1 ?_
    refine run_driveS 80 ?_
    simp only [go_sem, v49_2, v49_5]
    refine run_drw (by kernel_rfl) ?_
    refine drun_drive 40 (p := (_, _)) ?_
    simp only [go_sem, v49_3]
    refine drun_end ?_
    refine run_driveS 80 ?_
    simp only [go_sem]
    rcases Decidable.em (¬ a0 = b0) with h0 | h0'
    · refine run_cond_t (by simp only [go_sem, decide_eq_false h0]) ?_
      refine run_driveS 80 ?_
      simp only [go_sem]
      refine run_drw (by kernel_rfl) ?_
      refine drun_drive 40 (p := (_, _)) ?_
      simp only [go_sem, v49_4, lt_nat]
      refine drun_end ?_
      refine run_driveS 80 ?_
      simp only [go_sem]
      refine run_ret_drop Tryd.func49 res49 [] (.bool (decide (A < B))) [] rfl (by simp) trivial (by simp [uniq]) ?_ ⟨rfl, rfl⟩
      have e : decide (a0 < b0) = decide (A < B) := by
        rw [decide_eq_decide]
        omega
      simp only [go_sem, rr49, ren, e]
    obtain rfl := Decidable.not_not.1 h0'
    refine run_cond_f (by simp only [go_sem]) ?_
    refine run_driveS 80 ?_
    simp only [go_sem, v49_6]
    refine run_loop_eq v49_7.eq_1 ?_
    refine run_driveS 80 ?_
    simp only [go_sem, v49_2, v49_5]
    refine run_exit rfl ?_
    refine run_driveS 80 ?_
    simp only [go_sem, v49_9]
    refine run_ret_drop Tryd.func49 res49 [] (.bool (decide (A < B))) [] rfl (by simp) trivial (by simp [uniq]) ?_ ⟨rfl, rfl⟩
    have e : decide (A < B) = false := decide_eq_false (by omega)
    simp only [go_sem, rr49, ren, e]
  · rintro v g rfl; rfl
  · rintro v rfl; exact hQ
theorem sub_law (a b c : Nat) (hb : b < 18446744073709551616) (hc : c ≤ 1) (ha : a < 18446744073709551616) : ∃ t c' : Nat, t < 18446744073709551616 ∧ c' ≤ 1 ∧ a + 18446744073709551616 * c' = b + c + t ∧ s64 (s64 a b) c = t ∧ selN (decide ((s64 a b : Nat) < c)) 1 (selN (decide (a < b)) 1 0) = c' := by
  refine ⟨_, _, ?_, ?_, ?_, rfl, rfl⟩
  · unfold s64; omega
  · unfold selN s64; simp only [decide_eq_true_eq]; (repeat' split) <;> omega
  · unfold selN s64
    simp only [decide_eq_true_eq]
    (repeat' split) <;> omega
theorem add_law (a b c : Nat) (hb : b < 18446744073709551616) (hc : c ≤ 1) (ha : a < 18446744073709551616) : ∃ t c' : Nat, t < 18446744073709551616 ∧ c' ≤ 1 ∧ a + b + c = 18446744073709551616 * c' + t ∧ w64 (w64 (a + b) + c) = t ∧ selN (decide ((w64 (w64 (a + b) + c)) < w64 (a + b))) 1 (selN (decide (w64 (a + b) < a)) 1 0) = c' := by
  refine ⟨_, _, ?_, ?_, ?_, rfl, rfl⟩
  · unfold w64; omega
  · unfold selN w64; simp only [decide_eq_true_eq]; (repeat' split) <;> omega
  · unfold selN w64
    simp only [decide_eq_true_eq]
    (repeat' split) <;> omega
theorem ref_minus0 (A B : Nat) (hA : A < 115792089237316195423570985008687907853269984665640564039457584007913129639936) (hB : B < 115792089237316195423570985008687907853269984665640564039457584007913129639936) (Q : V → Heap → Prop)
    (hQ : ∀ D b : Nat, D < 115792089237316195423570985008687907853269984665640564039457584007913129639936 → b ≤ 1 → A + 115792089237316195423570985008687907853269984665640564039457584007913129639936 * b = B + D → Q (.tup [lw D, u b]) []) : VCall Tryd.prog G 51 [lw A, lw B] [] Q := by
  refine vcall_body Tryd.func51 nm51 code51 nt51 ?_
  obtain ⟨a0, a1, a2, a3, ha0, ha1, ha2, ha3, ea, eA⟩ := limbs A
  obtain ⟨b0, b1, b2, b3, hb0, hb1, hb2, hb3, eb, eB⟩ := limbs B
  rw [ea, eb]
  refine run_driveS 80 ?_
  simp only [go_sem, v51, v51_0, v51_1, v51_2, v51_3, v51_17]
  obtain ⟨d0, c0, hd0, hc0, he0, p0, q0⟩ := sub_law a0 b0 0 hb0 (by decide) ha0
  refine run_loop_eq v51_16.eq_1 ?_
  refine run_driveS 80 ?_
  simp only [go_sem, v51_4, v51_14]
  refine run_drw (by kernel_rfl) ?_
  refine drun_drive 40 (p := (_, _)) ?_
  simp only [go_sem, v51_5]
  refine drun_end ?_
  refine run_driveS 80 ?_
  simp only [go_sem, v51_6]
  refine run_drw (by kernel_rfl) ?_
  refine drun_drive 40 (p := (_, _)) ?_
  simp only [go_sem, v51_7]
  refine drun_end ?_
  refine run_driveS 80 ?_
  simp only [go_sem]
  refine run_cond_mov rfl ?_
  simp only [go_sem, v51_8]
  refine run_driveS 80 ?_
  simp only [go_sem, v51_9, v51_10, p0]
  refine run_cond_mov rfl ?_
  simp only [go_sem, v51_11, q0]
  refine run_driveS 80 ?_
  simp only [go_sem, v51_12, v51_13, v51_15]
  obtain ⟨d1, c1, hd1, hc1, he1, p1, q1⟩ := sub_law a1 b1 c0 hb1 hc0 ha1
  refine run_loop_eq v51_16.eq_1 ?_
  refine run_driveS 80 ?_
  simp only [go_sem, v51_4, v51_14]
  refine run_drw (by kernel_rfl) ?_
  refine drun_drive 40 (p := (_, _)) ?_
  simp only [go_sem, v51_5]
  refine drun_end ?_
  refine run_driveS 80 ?_
  simp only [go_sem, v51_6]
  refine run_drw (by kernel_rfl) ?_
  refine drun_drive 40 (p := (_, _)) ?_
  simp only [go_sem, v51_7]
  refine drun_end ?_
  refine run_driveS 80 ?_
  simp only [go_sem]
  refine run_cond_mov rfl ?_
  simp only [go_sem, v51_8]
  refine run_driveS 80 ?_
  simp only [go_sem, v51_9, v51_10, p1]
  refine run_cond_mov rfl ?_
  simp only [go_sem, v51_11, q1]
  refine run_driveS 80 ?_
  simp only [go_sem, v51_12, v51_13, v51_15]
  obtain ⟨d2, c2, hd2, hc2, he2, p2, q2⟩ := sub_law a2 b2 c1 hb2 hc1 ha2
  refine run_loop_eq v51_16.eq_1 ?_
  refine run_driveS 80 ?_
  simp only [go_sem, v51_4, v51_14]
  refine run_drw (by kernel_rfl) ?_
  refine drun_drive 40 (p := (_, _)) ?_
  simp only [go_sem, v51_5]
  refine drun_end ?_
  refine run_driveS 80 ?_
  simp only [go_sem, v51_6]
  refine run_drw (by kernel_rfl) ?_
  refine drun_drive 40 (p := (_, _)) ?_
  simp only [go_sem, v51_7]
  refine drun_end ?_
  refine run_driveS 80 ?_
  simp only [go_sem]
  refine run_cond_mov rfl ?_
  simp only [go_sem, v51_8]
  refine run_driveS 80 ?_
  simp only [go_sem, v51_9, v51_10, p2]
  refine run_cond_mov rfl ?_
  simp only [go_sem, v51_11, q2]
  refine run_driveS 80 ?_
  simp only [go_sem, v51_12, v51_13, v51_15]
  obtain ⟨d3, c3, hd3, hc3, he3, p3, q3⟩ := sub_law a3 b3 c2 hb3 hc2 ha3
  refine run_loop_eq v51_16.eq_1 ?_
  refine run_driveS 80 ?_
  simp only [go_sem, v51_4, v51_14]
  refine run_drw (by kernel_rfl) ?_
  refine drun_drive 40 (p := (_, _)) ?_
  simp only [go_sem, v51_5]
  refine drun_end ?_
  refine run_driveS 80 ?_
  simp only [go_sem, v51_6]
  refine run_drw (by kernel_rfl) ?_
  refine drun_drive 40 (p := (_, _)) ?_
  simp only [go_sem, v51_7]
  refine drun_end ?_
  refine run_driveS 80 ?_
  simp only [go_sem]
  refine run_cond_mov rfl ?_
  simp only [go_sem, v51_8]
  refine run_driveS 80 ?_
  simp only [go_sem, v51_9, v51_10, p3]
  refine run_cond_mov rfl ?_
  simp only [go_sem, v51_11, q3]
  refine run_driveS 80 ?_
  simp only [go_sem, v51_12, v51_13, v51_15]
  refine run_loop_eq v51_16.eq_1 ?_
  refine run_driveS 80 ?_
  simp only [go_sem, v51_4]
  refine run_exit rfl ?_
  refine run_driveS 80 ?_
  simp only [go_sem, v51_18]
  refine run_ret_drop Tryd.func51 res51 [] (.tup [lw (d0 + 18446744073709551616 * d1 + 340282366920938463463374607431768211456 * d2 + 6277101735386680763835789423207666416102355444464034512896 * d3), u c3]) [] rfl (by simp) trivial (by simp [uniq]) ?_ (hQ _ _ ?_ hc3 ?_)
  · rw [lw_of hd0 hd1 hd2 hd3]
    simp only [go_sem, rr51, ren, rens, u]
  · omega
  · rw [eA hA, eB hB]; omega
theorem ref_minus (A B : Nat) (hA : A < 115792089237316195423570985008687907853269984665640564039457584007913129639936) (hB : B < 115792089237316195423570985008687907853269984665640564039457584007913129639936) {h : Heap} {R : V → Heap → Prop}
    (hQ : ∀ D b : Nat, D < 115792089237316195423570985008687907853269984665640564039457584007913129639936 → b ≤ 1 → A + 115792089237316195423570985008687907853269984665640564039457584007913129639936 * b = B + D → R (.tup [lw D, .int .u64 (b : Int)]) h) : VCall Tryd.prog G 51 [lw A, lw B] h R := by
  refine vcall_plain (Q := fun v => ∃ D b : Nat, D < 115792089237316195423570985008687907853269984665640564039457584007913129639936 ∧ b ≤ 1 ∧ A + 115792089237316195423570985008687907853269984665640564039457584007913129639936 * b = B + D ∧ v = .tup [lw D, u b]) (ref_minus0 A B hA hB _ fun D b h1 h2 h3 => ⟨⟨D, b, h1, h2, h3, rfl⟩, rfl⟩) (fun g => by simp only [rens, lw_plain]) ?_ ?_
  · rintro v g ⟨D, b, _, _, _, rfl⟩; simp only [ren, rens, lw_plain, u]
  · rintro v ⟨D, b, h1, h2, h3, rfl⟩; exact hQ D b h1 h2 h3
theorem ref_plus0 (A B : Nat) (hA : A < 115792089237316195423570985008687907853269984665640564039457584007913129639936) (hB : B < 115792089237316195423570985008687907853269984665640564039457584007913129639936) (Q : V → Heap → Prop)
    (hQ : ∀ D b : Nat, D < 115792089237316195423570985008687907853269984665640564039457584007913129639936 → b ≤ 1 → A + B = 115792089237316195423570985008687907853269984665640564039457584007913129639936 * b + D → Q (.tup [lw D, u b]) []) : VCall Tryd.prog G 48 [lw A, lw B] [] Q := by
  refine vcall_body Tryd.func48 nm48 code48 nt48 ?_
  obtain ⟨a0, a1, a2, a3, ha0, ha1, ha2, ha3, ea, eA⟩ := limbs A
  obtain ⟨b0, b1, b2, b3, hb0, hb1, hb2, hb3, eb, eB⟩ := limbs B
  rw [ea, eb]
  refine run_driveS 80 ?_
  simp only [go_sem, v48, v48_0, v48_1, v48_2, v48_3, v48_17]
  obtain ⟨d0, c0, hd0, hc0, he0, p0, q0⟩ := add_law a0 b0 0 hb0 (by decide) ha0
  rw [Nat.add_zero (w64 (a0 + b0))] at p0 q0
  rw [p0] at q0
  refine run_loop_eq v48_16.eq_1 ?_
  refine run_driveS 80 ?_
  simp only [go_sem, v48_4, v48_14]
  refine run_drw (by kernel_rfl) ?_
  refine drun_drive 40 (p := (_, _)) ?_
  simp only [go_sem, v48_5]
  refine drun_end ?_
  refine run_driveS 80 ?_
  simp only [go_sem, v48_6, v48_7]
  refine run_cond_mov rfl ?_
  simp only [go_sem, v48_8]
  refine run_driveS 80 ?_
  simp only [go_sem, v48_9, v48_10, p0]
  refine run_cond_mov rfl ?_
  simp only [go_sem, v48_11, q0]
  refine run_driveS 80 ?_
  simp only [go_sem, v48_12, v48_13, v48_15]
  obtain ⟨d1, c1, hd1, hc1, he1, p1, q1⟩ := add_law a1 b1 c0 hb1 hc0 ha1
  rw [p1] at q1
  refine run_loop_eq v48_16.eq_1 ?_
  refine run_driveS 80 ?_
  simp only [go_sem, v48_4, v48_14]
  refine run_drw (by kernel_rfl) ?_
  refine drun_drive 40 (p := (_, _)) ?_
  simp only [go_sem, v48_5]
  refine drun_end ?_
  refine run_driveS 80 ?_
  simp only [go_sem, v48_6, v48_7]
  refine run_cond_mov rfl ?_
  simp only [go_sem, v48_8]
  refine run_driveS 80 ?_
  simp only [go_sem, v48_9, v48_10, p1]
  refine run_cond_mov rfl ?_
  simp only [go_sem, v48_11, q1]
  refine run_driveS 80 ?_
  simp only [go_sem, v48_12, v48_13, v48_15]
  obtain ⟨d2, c2, hd2, hc2, he2, p2, q2⟩ := add_law a2 b2 c1 hb2 hc1 ha2
  rw [p2] at q2
  refine run_loop_eq v48_16.eq_1 ?_
  refine run_driveS 80 ?_
  simp only [go_sem, v48_4, v48_14]
  refine run_drw (by kernel_rfl) ?_
  refine drun_drive 40 (p := (_, _)) ?_
  simp only [go_sem, v48_5]
  refine drun_end ?_
  refine run_driveS 80 ?_
  simp only [go_sem, v48_6, v48_7]
  refine run_cond_mov rfl ?_
  simp only [go_sem, v48_8]
  refine run_driveS 80 ?_
  simp only [go_sem, v48_9, v48_10, p2]
  refine run_cond_mov rfl ?_
  simp only [go_sem, v48_11, q2]
  refine run_driveS 80 ?_
  simp only [go_sem, v48_12, v48_13, v48_15]
  obtain ⟨d3, c3, hd3, hc3, he3, p3, q3⟩ := add_law a3 b3 c2 hb3 hc2 ha3
  rw [p3] at q3
  refine run_loop_eq v48_16.eq_1 ?_
  refine run_driveS 80 ?_
  simp only [go_sem, v48_4, v48_14]
  refine run_drw (by kernel_rfl) ?_
  refine drun_drive 40 (p := (_, _)) ?_
  simp only [go_sem, v48_5]
  refine drun_end ?_
  refine run_driveS 80 ?_
  simp only [go_sem, v48_6, v48_7]
  refine run_cond_mov rfl ?_
  simp only [go_sem, v48_8]
  refine run_driveS 80 ?_
  simp only [go_sem, v48_9, v48_10, p3]
  refine run_cond_mov rfl ?_
  simp only [go_sem, v48_11, q3]
  refine run_driveS 80 ?_
  simp only [go_sem, v48_12, v48_13, v48_15]
  refine run_loop_eq v48_16.eq_1 ?_
  refine run_driveS 80 ?_
  simp only [go_sem, v48_4]
  refine run_exit rfl ?_
  refine run_driveS 80 ?_
  simp only [go_sem, v48_18]
  refine run_ret_drop Tryd.func48 res48 [] (.tup [lw (d0 + 18446744073709551616 * d1 + 340282366920938463463374607431768211456 * d2 + 6277101735386680763835789423207666416102355444464034512896 * d3), u c3]) [] rfl (by simp) trivial (by simp [uniq]) ?_ (hQ _ _ ?_ hc3 ?_)
  · rw [lw_of hd0 hd1 hd2 hd3]
    simp only [go_sem, rr48, ren, rens, u]
  · omega
  · rw [eA hA, eB hB]; omega
theorem ref_plus (A B : Nat) (hA : A < 115792089237316195423570985008687907853269984665640564039457584007913129639936) (hB : B < 115792089237316195423570985008687907853269984665640564039457584007913129639936) {h : Heap} {R : V → Heap → Prop}
    (hQ : ∀ D b : Nat, D < 115792089237316195423570985008687907853269984665640564039457584007913129639936 → b ≤ 1 → A + B = 115792089237316195423570985008687907853269984665640564039457584007913129639936 * b + D → R (.tup [lw D, .int .u64 (b : Int)]) h) : VCall Tryd.prog G 48 [lw A, lw B] h R := by
  refine vcall_plain (Q := fun v => ∃ D b : Nat, D < 115792089237316195423570985008687907853269984665640564039457584007913129639936 ∧ b ≤ 1 ∧ A + B = 115792089237316195423570985008687907853269984665640564039457584007913129639936 * b + D ∧ v = .tup [lw D, u b]) (ref_plus0 A B hA hB _ fun D b h1 h2 h3 => ⟨⟨D, b, h1, h2, h3, rfl⟩, rfl⟩) (fun g => by simp only [rens, lw_plain]) ?_ ?_
  · rintro v g ⟨D, b, _, _, _, rfl⟩; simp only [ren, rens, lw_plain, u]
  · rintro v ⟨D, b, h1, h2, h3, rfl⟩; exact hQ D b h1 h2 h3
end
section
attribute [local go_sem ↓] lc_len lc_take lc_drop lc_known lc_one lc_rens lc_cells lw_known lw_agg lw_asG
attribute [local go_sem] lt_nat lt_natl lt_lnat lt_ll
set_option maxRecDepth 100000
set_option maxHeartbeats 1000000
theorem ell_two : ell + ell < 115792089237316195423570985008687907853269984665640564039457584007913129639936 := by decide
theorem ref_add (A B : Nat) (hA : A < ell) (hB : B < ell) {h : Heap} {R : V → Heap → Prop} (hQ : R (lw ((A + B) % ell)) h) : VCall Tryd.prog G 13 [lw A, lw B] h R := by
  refine vcall_plain (Q := fun v => v = lw ((A + B) % ell)) ?_ (fun g => by simp only [rens, lw_plain]) ?_ ?_
  · have h2 := ell_two
    have hl := ell_lt
    refine vcall_body Tryd.func13 nm13 code13 nt13 ?_
    refine run_driveS 80 ?_
    simp only [go_sem, v13, v13_0, v13_1]
    refine run_call' rfl ?_
    simp only [go_sem, calV]
    refine ref_plus A B (by omega) (by omega) fun D b hD hb he => ?_
    have hb0 : b = 0 := by omega
    refine run_driveS 80 ?_
    simp only [go_sem]
    refine run_drw (by kernel_rfl) ?_
    refine drun_drive 40 (p := (_, _)) ?_
    simp only [go_sem, v13_2]
    refine drun_call' ?_
    simp only [go_sem, calV]
    refine ref_l ?_
    refine drun_drive 40 (p := (_, _)) ?_
    simp only [go_sem]
    refine drun_call' ?_
    simp only [go_sem, calV]
    refine ref_below D ell hD hl ?_
    refine drun_drive 40 (p := (_, _)) ?_
    simp only [go_sem]
    refine drun_end ?_
    refine run_driveS 80 ?_
    simp only [go_sem]
    by_cases hlt : D < ell
    · refine run_cond_f (by simp only [go_sem, decide_eq_true hlt]) ?_
      refine run_driveS 80 ?_
      simp only [go_sem, v13_4]
      refine run_ret_drop Tryd.func13 res13 [] (lw ((A + B) % ell)) [] rfl (by simp) trivial (by simp [uniq]) ?_ ⟨rfl, rfl⟩
      rw [show (A + B) % ell = D by rw [Nat.mod_eq_of_lt (by omega)]; omega]
      simp only [go_sem, rr13, lw_plain]
    · refine run_cond_t (by simp only [go_sem, decide_eq_false hlt]) ?_
      refine run_driveS 80 ?_
      simp only [go_sem]
      refine run_drw (by kernel_rfl) ?_
      refine drun_drive 40 (p := (_, _)) ?_
      simp only [go_sem, v13_3]
      refine drun_call' ?_
      simp only [go_sem, calV]
      refine ref_l ?_
      refine drun_drive 40 (p := (_, _)) ?_
      simp only [go_sem]
      refine drun_call' ?_
      simp only [go_sem, calV]
      refine ref_minus D ell hD hl fun D' b' hD' hb' he' => ?_
      refine drun_drive 40 (p := (_, _)) ?_
      simp only [go_sem]
      refine drun_end ?_
      refine run_driveS 80 ?_
      simp only [go_sem, v13_4]
      refine run_ret_drop Tryd.func13 res13 [] (lw ((A + B) % ell)) [] rfl (by simp) trivial (by simp [uniq]) ?_ ⟨rfl, rfl⟩
      rw [show (A + B) % ell = D' by rw [Nat.mod_eq_sub_mod (by omega), Nat.mod_eq_of_lt (by omega)]; omega]
      simp only [go_sem, rr13, lw_plain]
  · rintro v g rfl; exact lw_plain _ g
  · rintro v rfl; exact hQ
theorem ref_neg (A : Nat) (hA : A < ell) {h : Heap} {R : V → Heap → Prop} (hQ : R (lw ((ell - A) % ell)) h) : VCall Tryd.prog G 106 [lw A] h R := by
  refine vcall_plain (Q := fun v => v = lw ((ell - A) % ell)) ?_ (fun g => by simp only [rens, lw_plain]) ?_ ?_
  · have hl := ell_lt
    refine vcall_body Tryd.func106 nm106 code106 nt106 ?_
    refine run_driveS 80 ?_
    simp only [go_sem, v106, v106_0, v106_1]
    refine run_call' rfl ?_
    simp only [go_sem, calV]
    refine ref_zero A (by omega) ?_
    refine run_driveS 80 ?_
    simp only [go_sem]
    by_cases h0 : A = 0
    · refine run_cond_t (by simp only [go_sem, decide_eq_true h0]) ?_
      refine run_driveS 80 ?_
      simp only [go_sem, v106_2]
      refine run_ret_drop Tryd.func106 res106 [] (lw ((ell - A) % ell)) [] rfl (by simp) trivial (by simp [uniq]) ?_ ⟨rfl, rfl⟩
      rw [show (ell - A) % ell = A by rw [h0, Nat.sub_zero, Nat.mod_self]]
      simp only [go_sem, rr106, lw_plain]
    · refine run_cond_f (by simp only [go_sem, decide_eq_false h0]) ?_
      refine run_driveS 80 ?_
      simp only [go_sem]
      refine run_drw (by kernel_rfl) ?_
      refine drun_drive 40 (p := (_, _)) ?_
      simp only [go_sem, v106_3]
      refine drun_call' ?_
      simp only [go_sem, calV]
      refine ref_l ?_
      refine drun_drive 40 (p := (_, _)) ?_
      simp only [go_sem]
      refine drun_call' ?_
      simp only [go_sem, calV]
      refine ref_minus ell A hl (by omega) fun D b hD hb he => ?_
      refine drun_drive 40 (p := (_, _)) ?_
      simp only [go_sem]
      refine drun_end ?_
      refine run_driveS 80 ?_
      simp only [go_sem, v106_4]
      refine run_ret_drop Tryd.func106 res106 [] (lw ((ell - A) % ell)) [] rfl (by simp) trivial (by simp [uniq]) ?_ ⟨rfl, rfl⟩
      rw [show (ell - A) % ell = D by rw [Nat.mod_eq_of_lt (by omega)]; omega]
      simp only [go_sem, rr106, lw_plain]
  · rintro v g rfl; exact lw_plain _ g
  · rintro v rfl; exact hQ
theorem ref_sub (A B : Nat) (hA : A < ell) (hB : B < ell) {h : Heap} {R : V → Heap → Prop} (hQ : R (lw ((A + (ell - B)) % ell)) h) : VCall Tryd.prog G 108 [lw A, lw B] h R := by
  refine vcall_plain (Q := fun v => v = lw ((A + (ell - B)) % ell)) ?_ (fun g => by simp only [rens, lw_plain]) ?_ ?_
  · refine vcall_body Tryd.func108 nm108 code108 nt108 ?_
    refine run_driveS 80 ?_
    simp only [go_sem, v108, v108_0]
    refine run_drw (by kernel_rfl) ?_
    refine drun_drive 40 (p := (_, _)) ?_
    simp only [go_sem, v108_1]
    refine drun_call' ?_
    simp only [go_sem, calV]
    refine ref_neg B hB ?_
    refine drun_drive 40 (p := (_, _)) ?_
    simp only [go_sem]
    refine drun_call' ?_
    simp only [go_sem, calV]
    refine ref_add A _ hA (mod_lt' _) ?_
    rw [Nat.add_mod_mod]
    refine drun_drive 40 (p := (_, _)) ?_
    simp only [go_sem]
    refine drun_end ?_
    refine run_driveS 80 ?_
    simp only [go_sem]
    refine run_ret_drop Tryd.func108 res108 [] (lw ((A + (ell - B)) % ell)) [] rfl (by simp) trivial (by simp [uniq]) ?_ ⟨rfl, rfl⟩
    simp only [go_sem, rr108, lw_plain]
  · rintro v g rfl; exact lw_plain _ g
  · rintro v rfl; exact hQ
end
section
attribute [local go_sem ↓] lc_len lc_take lc_drop lc_known lc_one lc_rens lc_cells lw_known lw_agg lw_asG
attribute [local go_sem] lt_nat lt_natl lt_lnat lt_ll
set_option maxRecDepth 100000
set_option maxHeartbeats 1000000
theorem limbs' (A : Nat) : ∃ a0 a1 a2 a3 : Nat, a0 < 18446744073709551616 ∧ a1 < 18446744073709551616 ∧ a2 < 18446744073709551616 ∧ a3 < 18446744073709551616 ∧ lc A = [.int .u64 (a0 : Int), .int .u64 (a1 : Int), .int .u64 (a2 : Int), .int .u64 (a3 : Int)] ∧
    (A < 115792089237316195423570985008687907853269984665640564039457584007913129639936 → A = a0 + 18446744073709551616 * a1 + 340282366920938463463374607431768211456 * a2 + 6277101735386680763835789423207666416102355444464034512896 * a3) := by
  refine ⟨_, _, _, _, Nat.mod_lt _ (by decide), Nat.mod_lt _ (by decide), Nat.mod_lt _ (by decide), Nat.mod_lt _ (by decide), rfl, fun h => ?_⟩
  omega
theorem lc_of {d0 d1 d2 d3 : Nat} (h0 : d0 < 18446744073709551616) (h1 : d1 < 18446744073709551616) (h2 : d2 < 18446744073709551616) (h3 : d3 < 18446744073709551616) :
    [V.int .u64 (d0 : Int), .int .u64 (d1 : Int), .int .u64 (d2 : Int), .int .u64 (d3 : Int)] = lc (d0 + 18446744073709551616 * d1 + 340282366920938463463374607431768211456 * d2 + 6277101735386680763835789423207666416102355444464034512896 * d3) := by
  have := lw_of h0 h1 h2 h3
  unfold lw at this
  injection this with this
  exact this.symm
theorem or_add (i a b : Nat) (hb : b < 2 ^ i) (hs : 2 ^ i * a + b < 18446744073709551616) : o64 (2 ^ i * a) b = 2 ^ i * a + b := by
  unfold o64
  have h2 : b ≤ 2 ^ i * a + b := Nat.le_add_left _ _
  have h1 : 2 ^ i * a ≤ 2 ^ i * a + b := Nat.le_add_right _ _
  rw [Nat.mod_eq_of_lt (by omega), Nat.mod_eq_of_lt (by omega), Nat.two_pow_add_eq_or_of_lt hb]
theorem o64_comm (a b : Nat) : o64 a b = o64 b a := by unfold o64; rw [Nat.or_comm]
theorem half_limb (x y : Nat) (hx : x < 18446744073709551616) (hy : y < 18446744073709551616) : o64 (r64 x 1) (l64 y 63) = x / 2 + 9223372036854775808 * (y % 2) := by
  have e1 : r64 x 1 = x / 2 := rfl
  have e2 : l64 y 63 = 2 ^ 63 * (y % 2) := by
    show y * 9223372036854775808 % 18446744073709551616 = 9223372036854775808 * (y % 2)
    omega
  rw [e1, e2, o64_comm, or_add 63 _ _ (by omega) (by omega)]
  omega
theorem and_one (a : Nat) : a64 a 1 = a % 2 := by
  unfold a64
  rw [show 1 % 18446744073709551616 = 2 ^ 1 - 1 from rfl, Nat.and_two_pow_sub_one_eq_mod]
  omega
theorem run_skip {f : FuncId} {n : Nat} {Q : V → Heap → Prop} {k : List TI} {st : St} (h : Run Tryd.prog G f n Q (k, st)) : Run Tryd.prog G f n Q (.c .skip :: k, st) := run_step (p' := (k, st)) rfl h
theorem half_tail (D c H : Nat) (ci : Int) (hci : ci = (c : Int)) (hD : D < 115792089237316195423570985008687907853269984665640564039457584007913129639936) (hc : c ≤ 1) (hH : 2 * H = D + 115792089237316195423570985008687907853269984665640564039457584007913129639936 * c) (x : V) (h0 : Option Blk) (hx : H < 115792089237316195423570985008687907853269984665640564039457584007913129639936) :
    Run Tryd.prog G 107 0 (fun v h' => v = lw H ∧ h' = []) ([.c (.seq (.seq (.reg v107_5) (.block 0 v107_11)) (.seq (.reg v107_12) (.seq (.reg v107_13) .ret)))],
      ⟨[x, .ptr 0 0, .ptr 1 0, .ptr 2 0, .int .u64 ci] ++ List.replicate 36 .unk, [h0, some ⟨.rw, lc 0⟩, some ⟨.rw, lc D⟩]⟩) := by
  subst hci
  obtain ⟨d0, d1, d2, d3, hd0, hd1, hd2, hd3, ed, eD⟩ := limbs' D
  have eD := eD hD
  rw [ed]
  refine run_driveS 80 ?_
  simp only [go_sem, v107_5, v107_11]
  obtain ⟨e0, f0, p0⟩ : ∃ e, e = d0 / 2 + 9223372036854775808 * (d1 % 2) ∧ o64 (r64 d0 1) (l64 d1 63) = e := ⟨_, rfl, half_limb d0 d1 hd0 hd1⟩
  refine run_loop_eq v107_10.eq_1 ?_
  refine run_driveS 80 ?_
  simp only [go_sem, v107_6, v107_8]
  refine run_drw (by kernel_rfl) ?_
  refine drun_drive 40 (p := (_, _)) ?_
  simp only [go_sem, v107_7, p0]
  refine drun_end ?_
  refine run_driveS 80 ?_
  simp only [go_sem, v107_9]
  obtain ⟨e1, f1, p1⟩ : ∃ e, e = d1 / 2 + 9223372036854775808 * (d2 % 2) ∧ o64 (r64 d1 1) (l64 d2 63) = e := ⟨_, rfl, half_limb d1 d2 hd1 hd2⟩
  refine run_loop_eq v107_10.eq_1 ?_
  refine run_driveS 80 ?_
  simp only [go_sem, v107_6, v107_8]
  refine run_drw (by kernel_rfl) ?_
  refine drun_drive 40 (p := (_, _)) ?_
  simp only [go_sem, v107_7, p1]
  refine drun_end ?_
  refine run_driveS 80 ?_
  simp only [go_sem, v107_9]
  obtain ⟨e2, f2, p2⟩ : ∃ e, e = d2 / 2 + 9223372036854775808 * (d3 % 2) ∧ o64 (r64 d2 1) (l64 d3 63) = e := ⟨_, rfl, half_limb d2 d3 hd2 hd3⟩
  refine run_loop_eq v107_10.eq_1 ?_
  refine run_driveS 80 ?_
  simp only [go_sem, v107_6, v107_8]
  refine run_drw (by kernel_rfl) ?_
  refine drun_drive 40 (p := (_, _)) ?_
  simp only [go_sem, v107_7, p2]
  refine drun_end ?_
  refine run_driveS 80 ?_
  simp only [go_sem, v107_9]
  obtain ⟨e3, f3, p3⟩ : ∃ e, e = d3 / 2 + 9223372036854775808 * (c % 2) ∧ o64 (r64 d3 1) (l64 c 63) = e := ⟨_, rfl, half_limb d3 c hd3 (by omega)⟩
  refine run_loop_eq v107_10.eq_1 ?_
  refine run_driveS 80 ?_
  simp only [go_sem, v107_6]
  refine run_exit rfl ?_
  refine run_driveS 80 ?_
  simp only [go_sem, v107_12, v107_13, p3]
  refine run_ret_drop Tryd.func107 res107 [] (lw H) [] rfl (by simp) trivial (by simp [uniq]) ?_ ⟨rfl, rfl⟩
  have e : H = e0 + 18446744073709551616 * e1 + 340282366920938463463374607431768211456 * e2 + 6277101735386680763835789423207666416102355444464034512896 * e3 := by omega
  rw [e, lw_of (by omega) (by omega) (by omega) (by omega)]
  simp only [go_sem, rr107, ren, rens]
theorem ref_half (A : Nat) (hA : A < ell) {h : Heap} {R : V → Heap → Prop} (hQ : ∀ H, H < ell → (A % 2 = 0 → 2 * H = A) → (A % 2 = 1 → 2 * H = A + ell) → R (lw H) h) : VCall Tryd.prog G 107 [lw A] h R := by
  have hl := ell_lt
  have h2 := ell_two
  have hodd : ell % 2 = 1 := by decide
  have hp0 : List.take 1 (lc A) = [.int .u64 ((A % 18446744073709551616 : Nat) : Int)] := rfl
  have hp : a64 (A % 18446744073709551616) 1 = A % 2 := by rw [and_one]; omega
  by_cases hb : A % 2 = 0
  · have hd : decide (A % 2 = 1) = false := decide_eq_false (by omega)
    refine vcall_plain (Q := fun v => v = lw (A / 2)) ?_ (fun g => by simp only [rens, lw_plain]) (fun v g hv => by subst hv; exact lw_plain _ g) (fun v hv => by subst hv; exact hQ (A / 2) (by omega) (fun _ => by omega) (fun _ => by omega))
    refine vcall_body Tryd.func107 nm107 code107 nt107 ?_
    refine run_driveS 80 ?_
    simp only [go_sem, v107, v107_0, v107_1, v107_2, v107_3, hp0, hp]
    refine run_cond_f (by simp only [go_sem, hd]) (run_skip ?_)
    refine run_rename [0, 1, 2] rfl (by simp) ?_ ?_ ?_ (half_tail A 0 (A / 2) (nl 0) rfl (by omega) (by omega) (by omega) (lw A) (some ⟨.rw, lc A⟩) (by omega))
    · simp only [go_sem, hfit, lc_fit, scs_fit, fit, ren, gmap, lw_plain, true_or, or_true, lc_zero]
    · simp [uniq, wrB]
    · simp only [go_sem, hfit, lc_fit, scs_fit, fit, ren, gmap, lw_plain, true_or, or_true]
  · have hd : decide (A % 2 = 1) = true := decide_eq_true (by omega)
    refine vcall_plain (Q := fun v => v = lw ((A + ell) / 2)) ?_ (fun g => by simp only [rens, lw_plain]) (fun v g hv => by subst hv; exact lw_plain _ g) (fun v hv => by subst hv; exact hQ ((A + ell) / 2) (by omega) (fun _ => by omega) (fun _ => by omega))
    refine vcall_body Tryd.func107 nm107 code107 nt107 ?_
    refine run_driveS 80 ?_
    simp only [go_sem, v107, v107_0, v107_1, v107_2, v107_3, hp0, hp]
    refine run_cond_t (by simp only [go_sem, hd]) ?_
    refine run_driveS 80 ?_
    simp only [go_sem]
    refine run_drw (by kernel_rfl) ?_
    refine drun_drive 40 (p := (_, _)) ?_
    simp only [go_sem, v107_4]
    refine drun_call' ?_
    simp only [go_sem, calV]
    refine ref_l ?_
    refine drun_drive 40 (p := (_, _)) ?_
    simp only [go_sem]
    refine drun_call' ?_
    simp only [go_sem, calV]
    refine ref_plus A ell (by omega) hl fun D b hD hb he => ?_
    refine drun_drive 40 (p := (_, _)) ?_
    simp only [go_sem]
    refine drun_end ?_
    refine run_rename [0, 1, 2] rfl (by simp) ?_ ?_ ?_ (half_tail D b ((A + ell) / 2) b rfl hD hb (by omega) (lw A) (some ⟨.rw, lc A⟩) (by omega))
    · simp only [go_sem, hfit, lc_fit, scs_fit, fit, ren, gmap, lw_plain, true_or, or_true, lc_zero]
    · simp [uniq, wrB]
    · simp only [go_sem, hfit, lc_fit, scs_fit, fit, ren, gmap, lw_plain, true_or, or_true]
end
section
attribute [local go_sem ↓] lc_len lc_take lc_drop lc_known lc_one lc_rens lc_cells lw_known lw_agg lw_asG
attribute [local go_sem] lt_nat lt_natl lt_lnat lt_ll
set_option maxRecDepth 100000
set_option maxHeartbeats 1000000
theorem shl16 (x w : Nat) (hx : x < 18446744073709551616) (hw : w < 65536) : ∃ y, o64 (l64 x 16) w = y ∧ y < 18446744073709551616 ∧ y = x * 65536 % 18446744073709551616 + w := by
  refine ⟨_, rfl, ?_⟩
  have e : l64 x 16 = 2 ^ 16 * (x % 281474976710656) := by
    show x * 65536 % 18446744073709551616 = 65536 * (x % 281474976710656)
    omega
  rw [e, or_add 16 _ _ hw (by omega)]
  omega
theorem shr48 (x : Nat) (hx : x < 18446744073709551616) : r64 x 48 = x / 281474976710656 := rfl
theorem and60 (x : Nat) (hx : x < 18446744073709551616) : a64 x 1152921504606846975 = x % 1152921504606846976 := by
  unfold a64
  rw [show 1152921504606846975 % 18446744073709551616 = 2 ^ 60 - 1 from rfl, Nat.and_two_pow_sub_one_eq_mod, Nat.mod_eq_of_lt hx]
theorem and32 (x : Nat) (hx : x < 18446744073709551616) : a64 x 4294967295 = x % 4294967296 := by
  unfold a64
  rw [show 4294967295 % 18446744073709551616 = 2 ^ 32 - 1 from rfl, Nat.and_two_pow_sub_one_eq_mod, Nat.mod_eq_of_lt hx]
theorem piece (m q c : Nat) (hm : m < 4294967296) (hq : q < 262144) (hc : c < 4294967296) : ∃ p c', a64 (w64 (w64 (m * q) + c)) 4294967295 = p ∧ r64 (w64 (w64 (m * q) + c)) 32 = c' ∧ p < 4294967296 ∧ c' < 4294967296 ∧ m * q + c = p + 4294967296 * c' := by
  have h : m * q ≤ 4294967295 * 262143 := Nat.mul_le_mul (by omega) (by omega)
  refine ⟨_, _, rfl, rfl, ?_⟩
  have e : w64 (w64 (m * q) + c) = m * q + c := by unfold w64; omega
  rw [e, and32 _ (by omega)]
  have e2 : r64 (m * q + c) 32 = (m * q + c) / 4294967296 := rfl
  rw [e2]
  omega
theorem or32 (x y : Nat) (hx : x < 4294967296) (hy : y < 4294967296) : ∃ z, o64 x (l64 y 32) = z ∧ z < 18446744073709551616 ∧ z = x + 4294967296 * y := by
  refine ⟨_, rfl, ?_⟩
  have e : l64 y 32 = 2 ^ 32 * y := by
    show y * 4294967296 % 18446744073709551616 = 4294967296 * y
    omega
  rw [e, o64_comm, or_add 32 _ _ hx (by omega)]
  omega
theorem lc_ell : lc ell = [.int .u64 (nl 6346243789798364141), .int .u64 (nl 1503914060200516822), .int .u64 (nl 0), .int .u64 (nl 1152921504606846976)] := rfl
theorem step_num {R w q low qc D1 b1 : Nat} (hR : R < ell) (hw : w < 65536) (h1 : 65536 * R + w = q * 7237005577332262213973186563042994240829374041602535252466099000494570602496 + low) (hlow : low < 7237005577332262213973186563042994240829374041602535252466099000494570602496) (h2 : qc = q * 27742317777372353535851937790883648493) (hq : q < 262144) (h3 : low + 115792089237316195423570985008687907853269984665640564039457584007913129639936 * b1 = qc + D1) (hD : D1 < 115792089237316195423570985008687907853269984665640564039457584007913129639936) (hb : b1 ≤ 1) :
    (b1 = 0 → D1 < ell → (65536 * R + w) % ell = D1) ∧ (b1 = 0 → ¬ D1 < ell → False) ∧ (b1 = 1 → ∃ D2, D1 + ell = 115792089237316195423570985008687907853269984665640564039457584007913129639936 + D2 ∧ D2 < ell ∧ (65536 * R + w) % ell = D2) := by
  have hN : 65536 * R + w + qc = q * ell + low := by
    rw [h1, h2]
    have : q * ell = q * 7237005577332262213973186563042994240829374041602535252466099000494570602496 + q * 27742317777372353535851937790883648493 := by rw [← Nat.mul_add]; rfl
    omega
  have he : ell = 7237005577332262213973186563042994240857116359379907606001950938285454250989 := rfl
  refine ⟨fun e h => ?_, fun e h => ?_, fun e => ?_⟩
  · subst e
    have : 65536 * R + w = D1 + ell * q := by rw [Nat.mul_comm ell q]; omega
    rw [this, Nat.add_mul_mod_self_left, Nat.mod_eq_of_lt h]
  · subst e; omega
  · subst e
    have hqc : qc < 262144 * 27742317777372353535851937790883648493 := by rw [h2]; omega
    have hq1 : 1 ≤ q := by
      rcases Nat.eq_zero_or_pos q with e | e
      · rw [e, Nat.zero_mul] at h2; omega
      · exact e
    refine ⟨D1 + ell - 115792089237316195423570985008687907853269984665640564039457584007913129639936, by omega, by omega, ?_⟩
    obtain ⟨p, rfl⟩ : ∃ p, q = p + 1 := ⟨q - 1, by omega⟩
    have : 65536 * R + w = D1 + ell - 115792089237316195423570985008687907853269984665640564039457584007913129639936 + ell * p := by rw [Nat.mul_comm ell p]; rw [Nat.add_mul, Nat.one_mul] at hN; omega
    rw [this, Nat.add_mul_mod_self_left, Nat.mod_eq_of_lt (by omega)]
theorem step_tail (N low qc : Nat) (hlow : low < 115792089237316195423570985008687907853269984665640564039457584007913129639936) (hqc : qc < 115792089237316195423570985008687907853269984665640564039457584007913129639936)
    (hs : ∀ D1 b1, low + 115792089237316195423570985008687907853269984665640564039457584007913129639936 * b1 = qc + D1 → D1 < 115792089237316195423570985008687907853269984665640564039457584007913129639936 → b1 ≤ 1 → (b1 = 0 → D1 < ell → N % ell = D1) ∧ (b1 = 0 → ¬ D1 < ell → False) ∧ (b1 = 1 → ∃ D2, D1 + ell = 115792089237316195423570985008687907853269984665640564039457584007913129639936 + D2 ∧ D2 < ell ∧ N % ell = D2)) (h0 h1 h4 : Option Blk) :
    Run Tryd.prog G 54 0 (fun v h' => v = lw (N % ell) ∧ h' = []) ([.r (v54_25.drop 2), .c (.seq (.seq (.reg v54_26) (.cond (.t 97) (.reg v54_27) .skip)) (.seq (.seq (.reg v54_28) (.cond (.t 107) (.reg v54_29) .skip)) (.seq (.reg v54_30) .ret)))],
      ⟨[.unk, .unk, .unk, .unk, .ptr 1 0, .unk, .unk, .unk, .ptr 3 0] ++ List.replicate 82 .unk ++ [lw low, lw qc] ++ List.replicate 22 .unk, [h0, some ⟨.rw, lc 0⟩, none, some ⟨.rw, lc ell⟩, none, none]⟩) := by
  have hl := ell_lt
  unfold v54_25
  refine run_driveS 80 ?_
  simp only [go_sem, List.drop]
  refine run_call' rfl ?_
  simp only [go_sem, calV]
  refine ref_minus low qc hlow hqc fun D1 b1 hD1 hb1 he1 => ?_
  obtain ⟨k1, k2, k3⟩ := hs D1 b1 he1 hD1 hb1
  refine run_driveS 80 ?_
  simp only [go_sem, v54_26]
  by_cases hb : b1 = 1
  · refine run_cond_t (by simp only [go_sem, decide_eq_true hb]) ?_
    obtain ⟨D2, e1, e2, e3⟩ := k3 hb
    refine run_driveS 80 ?_
    simp only [go_sem, v54_27]
    refine run_call' rfl ?_
    simp only [go_sem, calV]
    refine ref_plus D1 ell hD1 hl fun D b hD hb' he => ?_
    obtain rfl : D = D2 := by omega
    refine run_driveS 80 ?_
    simp only [go_sem, v54_28]
    refine run_call' rfl ?_
    simp only [go_sem, calV]
    refine ref_below D ell hD hl ?_
    refine run_driveS 80 ?_
    simp only [go_sem]
    refine run_cond_f (by simp only [go_sem, decide_eq_true e2]) ?_
    refine run_driveS 80 ?_
    simp only [go_sem, v54_30]
    refine run_ret_drop Tryd.func54 res54 [] (lw (N % ell)) [] rfl (by simp) trivial (by simp [uniq]) ?_ ⟨rfl, rfl⟩
    rw [e3]
    simp only [go_sem, rr54, lw_plain]
  · refine run_cond_f (by simp only [go_sem, decide_eq_false hb]) ?_
    have hb0 : b1 = 0 := by omega
    refine run_driveS 80 ?_
    simp only [go_sem, v54_28]
    refine run_call' rfl ?_
    simp only [go_sem, calV]
    refine ref_below D1 ell hD1 hl ?_
    refine run_driveS 80 ?_
    simp only [go_sem]
    by_cases hlt : D1 < ell
    · refine run_cond_f (by simp only [go_sem, decide_eq_true hlt]) ?_
      refine run_driveS 80 ?_
      simp only [go_sem, v54_30]
      refine run_ret_drop Tryd.func54 res54 [] (lw (N % ell)) [] rfl (by simp) trivial (by simp [uniq]) ?_ ⟨rfl, rfl⟩
      rw [k1 hb0 hlt]
      simp only [go_sem, rr54, lw_plain]
    · exact (k2 hb0 hlt).elim
theorem ref_step (A w : Nat) (hA : A < ell) (hw : w < 65536) {h : Heap} {R : V → Heap → Prop} (hQ : R (lw ((65536 * A + w) % ell)) h) : VCall Tryd.prog G 54 [lw A, .int .u64 (w : Int)] h R := by
  refine vcall_plain (Q := fun v => v = lw ((65536 * A + w) % ell)) ?_ (fun g => by simp only [rens, ren, lw_plain]) (fun v g hv => by subst hv; exact lw_plain _ g) (fun v hv => by subst hv; exact hQ)
  have hl := ell_lt
  have he : ell = 7237005577332262213973186563042994240857116359379907606001950938285454250989 := rfl
  obtain ⟨a0, a1, a2, a3, ha0, ha1, ha2, ha3, ea, eA⟩ := limbs A
  have eA := eA (by omega)
  rw [ea]
  obtain ⟨q, fq, eq⟩ : ∃ q, q = a3 / 17592186044416 ∧ r64 a3 44 = q := ⟨_, rfl, rfl⟩
  have hq : q < 262144 := by omega
  refine vcall_body Tryd.func54 nm54 code54 nt54 ?_
  obtain ⟨y0, p0, hy0, fy0⟩ := shl16 a0 w ha0 hw
  refine run_driveS 80 ?_
  simp only [go_sem, v54, v54_0, v54_1, v54_2, v54_3, v54_4, v54_10, eq, p0]
  obtain ⟨y1, p1, hy1, fy1⟩ := shl16 a1 (a0 / 281474976710656) ha1 (by omega)
  refine run_loop_eq v54_9.eq_1 ?_
  refine run_driveS 80 ?_
  simp only [go_sem, v54_5, v54_7]
  refine run_drw (by kernel_rfl) ?_
  refine drun_drive 40 (p := (_, _)) ?_
  simp only [go_sem, v54_6, shr48 a0 ha0, p1]
  refine drun_end ?_
  refine run_driveS 80 ?_
  simp only [go_sem, v54_8]
  obtain ⟨y2, p2, hy2, fy2⟩ := shl16 a2 (a1 / 281474976710656) ha2 (by omega)
  refine run_loop_eq v54_9.eq_1 ?_
  refine run_driveS 80 ?_
  simp only [go_sem, v54_5, v54_7]
  refine run_drw (by kernel_rfl) ?_
  refine drun_drive 40 (p := (_, _)) ?_
  simp only [go_sem, v54_6, shr48 a1 ha1, p2]
  refine drun_end ?_
  refine run_driveS 80 ?_
  simp only [go_sem, v54_8]
  obtain ⟨y3, p3, hy3, fy3⟩ := shl16 a3 (a2 / 281474976710656) ha3 (by omega)
  refine run_loop_eq v54_9.eq_1 ?_
  refine run_driveS 80 ?_
  simp only [go_sem, v54_5, v54_7]
  refine run_drw (by kernel_rfl) ?_
  refine drun_drive 40 (p := (_, _)) ?_
  simp only [go_sem, v54_6, shr48 a2 ha2, p3]
  refine drun_end ?_
  refine run_driveS 80 ?_
  simp only [go_sem, v54_8]
  obtain ⟨z3, fz3, ez3⟩ : ∃ z, z = y3 % 1152921504606846976 ∧ a64 y3 1152921504606846975 = z := ⟨_, rfl, and60 y3 hy3⟩
  refine run_loop_eq v54_9.eq_1 ?_
  refine run_driveS 80 ?_
  simp only [go_sem, v54_5]
  refine run_exit rfl ?_
  refine run_driveS 80 ?_
  simp only [go_sem, v54_11, ez3]
  refine run_call' rfl ?_
  simp only [go_sem, calV]
  refine ref_l ?_
  obtain ⟨m0, fm0, em0⟩ : ∃ m, m = 1559614445 ∧ a64 6346243789798364141 4294967295 = m := ⟨_, rfl, by decide⟩
  obtain ⟨m1, fm1, em1⟩ : ∃ m, m = 1477600026 ∧ r64 6346243789798364141 32 = m := ⟨_, rfl, by decide⟩
  obtain ⟨m2, fm2, em2⟩ : ∃ m, m = 2734136534 ∧ a64 1503914060200516822 4294967295 = m := ⟨_, rfl, by decide⟩
  obtain ⟨m3, fm3, em3⟩ : ∃ m, m = 350157278 ∧ r64 1503914060200516822 32 = m := ⟨_, rfl, by decide⟩
  refine run_driveS 80 ?_
  simp only [go_sem]
  rw [lc_ell]
  refine run_driveS 80 ?_
  simp only [go_sem, v54_13, em0, em1, em2, em3]
  rw [← lc_ell]
  refine run_driveS 80 ?_
  simp only [go_sem, v54_14, v54_15, v54_23]
  obtain ⟨x0, c0, u0, v0, hx0, hc0, e0⟩ := piece m0 q 0 (by omega) hq (by decide)
  rw [Nat.add_zero] at u0 v0
  refine run_loop_eq v54_22.eq_1 ?_
  refine run_driveS 80 ?_
  simp only [go_sem, v54_16, v54_20, v54_17, v54_18, v54_19, u0, v0]
  refine run_driveS 80 ?_
  simp only [go_sem, v54_21]
  obtain ⟨x1, c1, u1, v1, hx1, hc1, e1⟩ := piece m1 q c0 (by omega) hq hc0
  refine run_loop_eq v54_22.eq_1 ?_
  refine run_driveS 80 ?_
  simp only [go_sem, v54_16, v54_20, v54_17, v54_18, v54_19, u1, v1]
  refine run_driveS 80 ?_
  simp only [go_sem, v54_21]
  obtain ⟨x2, c2, u2, v2, hx2, hc2, e2⟩ := piece m2 q c1 (by omega) hq hc1
  refine run_loop_eq v54_22.eq_1 ?_
  refine run_driveS 80 ?_
  simp only [go_sem, v54_16, v54_20, v54_17, v54_18, v54_19, u2, v2]
  refine run_driveS 80 ?_
  simp only [go_sem, v54_21]
  obtain ⟨x3, c3, u3, v3, hx3, hc3, e3⟩ := piece m3 q c2 (by omega) hq hc2
  refine run_loop_eq v54_22.eq_1 ?_
  refine run_driveS 80 ?_
  simp only [go_sem, v54_16, v54_20, v54_17, v54_18, v54_19, u3, v3]
  refine run_driveS 80 ?_
  simp only [go_sem, v54_21]
  obtain ⟨s0, g0, hs0, fs0⟩ := or32 x0 x1 hx0 hx1
  obtain ⟨s1, g1, hs1, fs1⟩ := or32 x2 x3 hx2 hx3
  have hagg : V.agg [.int .u64 (s0 : Int), .int .u64 (s1 : Int), .int .u64 (c3 : Int), .int .u64 (nl 0)] = lw (s0 + 18446744073709551616 * s1 + 340282366920938463463374607431768211456 * c3 + 6277101735386680763835789423207666416102355444464034512896 * 0) := (lw_of hs0 hs1 (by omega) (by decide)).symm
  have hlow := (lw_of (d0 := y0) (d1 := y1) (d2 := y2) (d3 := z3) hy0 hy1 hy2 (by omega)).symm
  rw [Nat.mul_zero, Nat.add_zero] at hagg
  refine run_loop_eq v54_22.eq_1 ?_
  refine run_driveS 80 ?_
  simp only [go_sem, v54_16]
  refine run_exit rfl ?_
  refine run_driveS 80 ?_
  simp only [go_sem, v54_24, v54_25, g0, g1, hagg, hlow]
  refine run_rename [0, 1, 2, 3, 4, 5] rfl (by simp) ?_ ?_ ?_ (step_tail (65536 * A + w) (y0 + 18446744073709551616 * y1 + 340282366920938463463374607431768211456 * y2 + 6277101735386680763835789423207666416102355444464034512896 * z3) (s0 + 18446744073709551616 * s1 + 340282366920938463463374607431768211456 * c3) (by omega) (by omega) (fun D1 b1 e1 hD hb => ?_) none none none)
  · simp only [go_sem, hfit, lc_fit, scs_fit, fit, ren, gmap, lw_plain, true_or, or_true, lc_zero]
  · simp [uniq, wrB]
  · simp only [go_sem, hfit, lc_fit, scs_fit, fit, ren, gmap, lw_plain, true_or, or_true]
  · refine step_num (q := q) hA hw ?_ ?_ ?_ hq e1 hD hb
    · omega
    · omega
    · subst fm0 fm1 fm2 fm3
      omega
end
section
attribute [local go_sem ↓] lc_len lc_take lc_drop lc_known lc_one lc_rens lc_cells lw_known lw_agg lw_asG
attribute [local go_sem] lt_nat lt_natl lt_lnat lt_ll
set_option maxRecDepth 100000
set_option maxHeartbeats 1000000
def hp (ws : Nat → Nat) (n : Nat) : Nat → Nat
  | 0 => 0
  | k + 1 => 65536 * hp ws n k + ws (n - 1 - k)
theorem hp_step (ws : Nat → Nat) (n k : Nat) : (65536 * (hp ws n k % ell) + ws (n - 1 - k)) % ell = hp ws n (k + 1) % ell := by
  rw [hp, Nat.add_mod, Nat.mul_mod_mod, ← Nat.add_mod]
def wrow (n : Nat) (ws : Nat → Nat) : List V := row n fun j => [.int .u64 (ws j : Int)]
theorem wrow_get (n : Nat) (ws : Nat → Nat) {i : Nat} (h : i < n) : ((wrow n ws).drop i).take 1 = [.int .u64 (ws i : Int)] := by
  have := row_get' (s := 1) (e := fun j => [V.int .u64 (ws j : Int)]) (fun _ => rfl) (n := n) h
  rwa [Nat.mul_one] at this
theorem wrow_rens (n : Nat) (ws g : Nat → Nat) : rens g (wrow n ws) = wrow n ws := row_rens (fun j => by simp only [rens, ren]) n
theorem wrow_fit (n : Nat) (ws g : Nat → Nat) : fit g (wrow n ws) (wrow n ws) := fit_same (by rw [wrow_rens])
theorem words_loop (n : Nat) (hn : n < 1000000) (cap : Cap) (ws : Nat → Nat) (hws : ∀ j, ws j < 65536) {Q : V → Heap → Prop} (hQ : Q (lw (hp ws n n % ell)) [some ⟨.ro, wrow n ws⟩]) : ∀ m, m ≤ n → Run Tryd.prog G 52 1 Q ([.l v52_7, .b 0, .c (.seq (.reg v52_9) .ret)],
    ⟨[.sl 0 0 n cap, .unk, .ptr 1 0, .ptr 2 0, .int .i64 ((m : Int) - 1)] ++ List.replicate 14 .unk, [some ⟨.ro, wrow n ws⟩, some ⟨.rw, lc 0⟩, some ⟨.rw, lc (hp ws n (n - m) % ell)⟩]⟩)
  | 0, _ => by
    refine run_loop_eq v52_7.eq_1 ?_
    refine run_driveS 80 ?_
    simp only [go_sem, v52_3]
    refine run_exit rfl ?_
    refine run_driveS 80 ?_
    simp only [go_sem, v52_9]
    refine run_ret_drop Tryd.func52 res52 [0] (lw (hp ws n n % ell)) _ rfl (by simp) ?_ ?_ ?_ hQ
    · simp only [go_sem, hfit, lc_fit, scs_fit, fit, ren, gmap, lw_plain, true_or, or_true, wrow_fit]
    · simp [uniq, wrB]
    · simp only [go_sem, rr52, lw_plain, Nat.sub_zero]
  | m + 1, hm => by
    have ih := words_loop n hn cap ws hws hQ m (by omega)
    rw [show ((m + 1 : Nat) : Int) - 1 = (m : Int) by omega]
    have h0 : ((m : Int) < (n : Int)) = True := eq_true (by omega)
    have hg := wrow_get n ws (i := m) (by omega)
    have hw : IntKind.i64.wrap ((m : Int) - 1) = (m : Int) - 1 := wrap_i64 (by omega) (by omega)
    have hstep := hp_step ws n (n - (m + 1))
    rw [show n - 1 - (n - (m + 1)) = m by omega, show n - (m + 1) + 1 = n - m by omega] at hstep
    refine run_loop_eq v52_7.eq_1 ?_
    refine run_driveS 80 ?_
    simp only [go_sem, v52_3, v52_5]
    refine run_drw (by kernel_rfl) ?_
    refine drun_drive 40 (p := (_, _)) ?_
    simp only [go_sem, v52_4, h0, hg]
    refine drun_call' ?_
    simp only [go_sem, calV]
    refine ref_step _ _ (mod_lt' _) (hws m) ?_
    rw [hstep]
    refine drun_drive 40 (p := (_, _)) ?_
    simp only [go_sem]
    refine drun_end ?_
    refine run_driveS 80 ?_
    simp only [go_sem, v52_6, hw]
    refine run_rename [0, 1, 2] rfl (by simp) ?_ ?_ ?_ ih
    · simp only [go_sem, hfit, lc_fit, scs_fit, fit, ren, gmap, lw_plain, true_or, or_true, wrow_fit]
    · simp [uniq, wrB]
    · simp only [go_sem, hfit, lc_fit, scs_fit, fit, ren, gmap, lw_plain, true_or, or_true]
theorem ref_words (n : Nat) (hn : n < 1000000) (cap : Cap) (ws : Nat → Nat) (hws : ∀ j, ws j < 65536) (Q : V → Heap → Prop) (hQ : Q (lw (hp ws n n % ell)) [some ⟨.ro, wrow n ws⟩]) : VCall Tryd.prog G 52 [.sl 0 0 n cap] [some ⟨.ro, wrow n ws⟩] Q := by
  refine vcall_body Tryd.func52 nm52 code52 nt52 ?_
  have hw : IntKind.i64.wrap ((n : Int) - 1) = (n : Int) - 1 := wrap_i64 (by omega) (by omega)
  refine run_driveS 80 ?_
  simp only [go_sem, v52, v52_0, v52_1, v52_2, v52_8, hw]
  refine run_rename [0, 1, 2] rfl (by simp) ?_ ?_ ?_ (words_loop n hn cap ws hws hQ n (Nat.le_refl n))
  · rw [Nat.sub_self, show hp ws n 0 % ell = 0 from rfl]
    simp only [go_sem, hfit, lc_fit, scs_fit, fit, ren, gmap, lw_plain, true_or, or_true, wrow_fit, lc_zero]
  · simp [uniq, wrB]
  · simp only [go_sem, hfit, lc_fit, scs_fit, fit, ren, gmap, lw_plain, true_or, or_true]
theorem getD_lt {l : List Nat} {b : Nat} (h : ∀ x ∈ l, x < b) (hb : 0 < b) (j : Nat) : l.getD j 0 < b := by
  rw [List.getD_eq_getElem?_getD]
  cases hj : l[j]? with
  | none => exact hb
  | some x => exact h x (List.mem_of_getElem? hj)
theorem and16 (x : Nat) (hx : x < 18446744073709551616) : a64 x 65535 = x % 65536 := by
  unfold a64
  rw [show 65535 % 18446744073709551616 = 2 ^ 16 - 1 from rfl, Nat.and_two_pow_sub_one_eq_mod, Nat.mod_eq_of_lt hx]
theorem quarter (a : Nat) (ha : a < 18446744073709551616) : ∃ w0 w1 w2 w3 : Nat, a64 a 65535 = w0 ∧ a64 (r64 a 16) 65535 = w1 ∧ a64 (r64 a 32) 65535 = w2 ∧ r64 a 48 = w3 ∧ w0 < 65536 ∧ w1 < 65536 ∧ w2 < 65536 ∧ w3 < 65536 ∧ a = w0 + 65536 * w1 + 4294967296 * w2 + 281474976710656 * w3 := by
  have e1 : r64 a 16 = a / 65536 := rfl
  have e2 : r64 a 32 = a / 4294967296 := rfl
  have e3 : r64 a 48 = a / 281474976710656 := rfl
  refine ⟨_, _, _, _, rfl, rfl, rfl, rfl, ?_⟩
  rw [e1, e2, e3, and16 _ ha, and16 _ (by omega), and16 _ (by omega)]
  omega
theorem ref_least (A : Nat) (hA : A < 115792089237316195423570985008687907853269984665640564039457584007913129639936) {h : Heap} {R : V → Heap → Prop} (hQ : R (lw (A % ell)) h) : VCall Tryd.prog G 14 [lw A] h R := by
  refine vcall_plain (Q := fun v => v = lw (A % ell)) ?_ (fun g => by simp only [rens, ren, lw_plain]) (fun v g hv => by subst hv; exact lw_plain _ g) (fun v hv => by subst hv; exact hQ)
  obtain ⟨a0, a1, a2, a3, ha0, ha1, ha2, ha3, ea, eA⟩ := limbs A
  have eA := eA hA
  rw [ea]
  refine vcall_body Tryd.func14 nm14 code14 nt14 ?_
  refine run_driveS 80 ?_
  simp only [go_sem, v14, v14_0, v14_1, v14_2, v14_8]
  obtain ⟨w0_0, w0_1, w0_2, w0_3, p0_0, p0_1, p0_2, p0_3, q0_0, q0_1, q0_2, q0_3, f0⟩ := quarter a0 ha0
  refine run_loop_eq v14_7.eq_1 ?_
  refine run_driveS 80 ?_
  simp only [go_sem, v14_3, v14_5]
  refine run_drw (by kernel_rfl) ?_
  refine drun_drive 40 (p := (_, _)) ?_
  simp only [go_sem, v14_4, p0_0, p0_1, p0_2, p0_3]
  refine drun_end ?_
  refine run_driveS 80 ?_
  simp only [go_sem, v14_6]
  obtain ⟨w1_0, w1_1, w1_2, w1_3, p1_0, p1_1, p1_2, p1_3, q1_0, q1_1, q1_2, q1_3, f1⟩ := quarter a1 ha1
  refine run_loop_eq v14_7.eq_1 ?_
  refine run_driveS 80 ?_
  simp only [go_sem, v14_3, v14_5]
  refine run_drw (by kernel_rfl) ?_
  refine drun_drive 40 (p := (_, _)) ?_
  simp only [go_sem, v14_4, p1_0, p1_1, p1_2, p1_3]
  refine drun_end ?_
  refine run_driveS 80 ?_
  simp only [go_sem, v14_6]
  obtain ⟨w2_0, w2_1, w2_2, w2_3, p2_0, p2_1, p2_2, p2_3, q2_0, q2_1, q2_2, q2_3, f2⟩ := quarter a2 ha2
  refine run_loop_eq v14_7.eq_1 ?_
  refine run_driveS 80 ?_
  simp only [go_sem, v14_3, v14_5]
  refine run_drw (by kernel_rfl) ?_
  refine drun_drive 40 (p := (_, _)) ?_
  simp only [go_sem, v14_4, p2_0, p2_1, p2_2, p2_3]
  refine drun_end ?_
  refine run_driveS 80 ?_
  simp only [go_sem, v14_6]
  obtain ⟨w3_0, w3_1, w3_2, w3_3, p3_0, p3_1, p3_2, p3_3, q3_0, q3_1, q3_2, q3_3, f3⟩ := quarter a3 ha3
  refine run_loop_eq v14_7.eq_1 ?_
  refine run_driveS 80 ?_
  simp only [go_sem, v14_3, v14_5]
  refine run_drw (by kernel_rfl) ?_
  refine drun_drive 40 (p := (_, _)) ?_
  simp only [go_sem, v14_4, p3_0, p3_1, p3_2, p3_3]
  refine drun_end ?_
  refine run_driveS 80 ?_
  simp only [go_sem, v14_6]
  refine run_loop_eq v14_7.eq_1 ?_
  refine run_driveS 80 ?_
  simp only [go_sem, v14_3]
  refine run_exit rfl ?_
  refine run_driveS 80 ?_
  simp only [go_sem, v14_9]
  refine run_call' rfl ?_
  simp only [go_sem, calV]
  have hlt : ∀ x ∈ [w0_0, w0_1, w0_2, w0_3, w1_0, w1_1, w1_2, w1_3, w2_0, w2_1, w2_2, w2_3, w3_0, w3_1, w3_2, w3_3], x < 65536 := by
    intro x hx
    simp only [List.mem_cons, List.not_mem_nil, or_false] at hx
    omega
  have hrow : wrow 16 (fun j => [w0_0, w0_1, w0_2, w0_3, w1_0, w1_1, w1_2, w1_3, w2_0, w2_1, w2_2, w2_3, w3_0, w3_1, w3_2, w3_3].getD j 0) = [.int .u64 (w0_0 : Int), .int .u64 (w0_1 : Int), .int .u64 (w0_2 : Int), .int .u64 (w0_3 : Int), .int .u64 (w1_0 : Int), .int .u64 (w1_1 : Int), .int .u64 (w1_2 : Int), .int .u64 (w1_3 : Int), .int .u64 (w2_0 : Int), .int .u64 (w2_1 : Int), .int .u64 (w2_2 : Int), .int .u64 (w2_3 : Int), .int .u64 (w3_0 : Int), .int .u64 (w3_1 : Int), .int .u64 (w3_2 : Int), .int .u64 (w3_3 : Int)] := rfl
  have hval : hp (fun j => [w0_0, w0_1, w0_2, w0_3, w1_0, w1_1, w1_2, w1_3, w2_0, w2_1, w2_2, w2_3, w3_0, w3_1, w3_2, w3_3].getD j 0) 16 16 = A := by
    have : hp (fun j => [w0_0, w0_1, w0_2, w0_3, w1_0, w1_1, w1_2, w1_3, w2_0, w2_1, w2_2, w2_3, w3_0, w3_1, w3_2, w3_3].getD j 0) 16 16 = 65536 * (65536 * (65536 * (65536 * (65536 * (65536 * (65536 * (65536 * (65536 * (65536 * (65536 * (65536 * (65536 * (65536 * (65536 * (65536 * 0 + w3_3) + w3_2) + w3_1) + w3_0) + w2_3) + w2_2) + w2_1) + w2_0) + w1_3) + w1_2) + w1_1) + w1_0) + w0_3) + w0_2) + w0_1) + w0_0 := rfl
    rw [this]
    omega
  refine vcall_at (ref_words 16 (by decide) (.grow 1) (fun j => [w0_0, w0_1, w0_2, w0_3, w1_0, w1_1, w1_2, w1_3, w2_0, w2_1, w2_2, w2_3, w3_0, w3_1, w3_2, w3_3].getD j 0) (getD_lt hlt (by decide)) (fun v h => v = lw (A % ell) ∧ h = [some ⟨.ro, wrow 16 fun j => [w0_0, w0_1, w0_2, w0_3, w1_0, w1_1, w1_2, w1_3, w2_0, w2_1, w2_2, w2_3, w3_0, w3_1, w3_2, w3_3].getD j 0⟩]) ⟨by rw [hval], rfl⟩) [9] (by simp) ?_ ?_ ?_ ?_
  · rw [hrow]
    simp only [go_sem, hfit, lc_fit, scs_fit, fit, ren, gmap, lw_plain, true_or, or_true]
  · simp [uniq, wrB]
  · simp only [go_sem, ren, rens, gmap]
  · rintro v h'' ⟨rfl, rfl⟩
    simp only [go_sem, ren, rens, gmap, puts, wrB, Bool.false_eq_true, if_false, lw_plain]
    refine run_driveS 80 ?_
    simp only [go_sem]
    refine run_ret_drop Tryd.func14 res14 [] (lw (A % ell)) [] rfl (by simp) trivial (by simp [uniq]) ?_ ⟨rfl, rfl⟩
    simp only [go_sem, rr14, lw_plain]
end
section
attribute [local go_sem ↓] lc_len lc_take lc_drop lc_known lc_one lc_rens lc_cells lw_known lw_agg lw_asG
attribute [local go_sem] lt_nat lt_natl lt_lnat lt_ll
set_option maxRecDepth 100000
set_option maxHeartbeats 1000000
theorem wrow_len (n : Nat) (ws : Nat → Nat) : (wrow n ws).length = n := by
  have := row_len (s := 1) (e := fun j => [V.int .u64 (ws j : Int)]) (fun _ => rfl) n
  rwa [Nat.mul_one] at this
theorem wrow_known (n : Nat) (ws : Nat → Nat) : (wrow n ws).all V.known = true := row_all (fun _ => rfl) n
theorem wrow_one (n : Nat) (ws : Nat → Nat) : (wrow n ws).all V.one = true := row_all (fun _ => rfl) n
theorem wrow_take (n : Nat) (ws : Nat → Nat) : (wrow n ws).take n = wrow n ws := List.take_of_length_le (by rw [wrow_len]; exact Nat.le_refl n)
theorem wrow_set (n : Nat) (ws : Nat → Nat) {i v : Nat} (h : i < n) : (wrow n ws).take i ++ [.int .u64 (v : Int)] ++ (wrow n ws).drop (i + 1) = wrow n (upd ws i v) := by
  have := row_set (s := 1) (e := fun j => [V.int .u64 (ws j : Int)]) (fun _ => rfl) (cs := [V.int .u64 (v : Int)]) rfl h
  unfold splice at this
  rw [Nat.mul_one] at this
  refine this.trans (row_congr fun j hj => ?_)
  unfold upd
  split <;> rfl
attribute [local go_sem ↓] wrow_len wrow_known wrow_one wrow_take wrow_fit wrow_rens
def dg (A j : Nat) : Nat := A / 4294967296 ^ j % 4294967296
theorem dg_lt (A j : Nat) : dg A j < 4294967296 := Nat.mod_lt _ (by decide)
theorem ref_halves (A : Nat) (hA : A < 115792089237316195423570985008687907853269984665640564039457584007913129639936) {h : Heap} {R : V → Heap → Prop} (hQ : R (.agg (wrow 8 (dg A))) h) : VCall Tryd.prog G 53 [lw A] h R := by
  refine vcall_plain (Q := fun v => v = .agg (wrow 8 (dg A))) ?_ (fun g => by simp only [rens, ren, lw_plain]) (fun v g hv => by subst hv; simp only [ren, wrow_rens]) (fun v hv => by subst hv; exact hQ)
  obtain ⟨a0, a1, a2, a3, ha0, ha1, ha2, ha3, ea, eA⟩ := limbs A
  have eA := eA hA
  rw [ea]
  refine vcall_body Tryd.func53 nm53 code53 nt53 ?_
  refine run_driveS 80 ?_
  simp only [go_sem, v53, v53_0, v53_1, v53_2, v53_9]
  have p0 : a64 a0 4294967295 = dg A 0 := by
    rw [and32 _ ha0]
    unfold dg
    rw [eA]
    simp only [Nat.reducePow]
    omega
  have q0 : r64 a0 32 = dg A 1 := by
    show a0 / 4294967296 = _
    unfold dg
    rw [eA]
    simp only [Nat.reducePow]
    omega
  refine run_loop_eq v53_8.eq_1 ?_
  refine run_driveS 80 ?_
  simp only [go_sem, v53_3, v53_6, v53_4, v53_5, p0, q0]
  refine run_driveS 80 ?_
  simp only [go_sem, v53_7]
  have p1 : a64 a1 4294967295 = dg A 2 := by
    rw [and32 _ ha1]
    unfold dg
    rw [eA]
    simp only [Nat.reducePow]
    omega
  have q1 : r64 a1 32 = dg A 3 := by
    show a1 / 4294967296 = _
    unfold dg
    rw [eA]
    simp only [Nat.reducePow]
    omega
  refine run_loop_eq v53_8.eq_1 ?_
  refine run_driveS 80 ?_
  simp only [go_sem, v53_3, v53_6, v53_4, v53_5, p1, q1]
  refine run_driveS 80 ?_
  simp only [go_sem, v53_7]
  have p2 : a64 a2 4294967295 = dg A 4 := by
    rw [and32 _ ha2]
    unfold dg
    rw [eA]
    simp only [Nat.reducePow]
    omega
  have q2 : r64 a2 32 = dg A 5 := by
    show a2 / 4294967296 = _
    unfold dg
    rw [eA]
    simp only [Nat.reducePow]
    omega
  refine run_loop_eq v53_8.eq_1 ?_
  refine run_driveS 80 ?_
  simp only [go_sem, v53_3, v53_6, v53_4, v53_5, p2, q2]
  refine run_driveS 80 ?_
  simp only [go_sem, v53_7]
  have p3 : a64 a3 4294967295 = dg A 6 := by
    rw [and32 _ ha3]
    unfold dg
    rw [eA]
    simp only [Nat.reducePow]
    omega
  have q3 : r64 a3 32 = dg A 7 := by
    show a3 / 4294967296 = _
    unfold dg
    rw [eA]
    simp only [Nat.reducePow]
    omega
  refine run_loop_eq v53_8.eq_1 ?_
  refine run_driveS 80 ?_
  simp only [go_sem, v53_3, v53_6, v53_4, v53_5, p3, q3]
  refine run_driveS 80 ?_
  simp only [go_sem, v53_7]
  refine run_loop_eq v53_8.eq_1 ?_
  refine run_driveS 80 ?_
  simp only [go_sem, v53_3]
  refine run_exit rfl ?_
  refine run_driveS 80 ?_
  simp only [go_sem, v53_10]
  refine run_ret_drop Tryd.func53 res53 [] (.agg (wrow 8 (dg A))) [] rfl (by simp) trivial (by simp [uniq]) ?_ ⟨rfl, rfl⟩
  simp only [go_sem, rr53, ren, wrow_rens]
  rfl
end
section
attribute [local go_sem ↓] lc_len lc_take lc_drop lc_known lc_one lc_rens lc_cells lw_known lw_agg lw_asG
attribute [local go_sem] lt_nat lt_natl lt_lnat lt_ll
attribute [local go_sem ↓] wrow_len wrow_known wrow_one wrow_take wrow_fit wrow_rens
set_option maxRecDepth 100000
set_option maxHeartbeats 1000000
def val (p : Nat → Nat) : Nat → Nat
  | 0 => 0
  | n + 1 => val p n + p n * 4294967296 ^ n
theorem val_congr {p p' : Nat → Nat} : ∀ {n : Nat}, (∀ j, j < n → p j = p' j) → val p n = val p' n
  | 0, _ => rfl
  | n + 1, h => by rw [val, val, val_congr (n := n) fun j hj => h j (by omega), h n (Nat.lt_succ_self n)]
theorem val_set (p : Nat → Nat) (v : Nat) : ∀ {n i : Nat}, i < n → val (upd p i v) n + p i * 4294967296 ^ i = val p n + v * 4294967296 ^ i
  | 0, i, h => by omega
  | n + 1, i, h => by
    rw [val, val]
    by_cases hi : i = n
    · subst hi
      rw [upd_same, val_congr (p := upd p i v) (p' := p) fun j hj => upd_ne (by omega)]
      omega
    · have := val_set p v (n := n) (i := i) (by omega)
      rw [upd_ne (fun e => hi e.symm)]
      omega
theorem val_dg (A : Nat) : ∀ n, val (dg A) n = A % 4294967296 ^ n
  | 0 => by rw [Nat.pow_zero, Nat.mod_one]; rfl
  | n + 1 => by
    rw [val, val_dg A n, dg, Nat.pow_succ, Nat.mod_mul, Nat.mul_comm (_ % _) (_ ^ _)]
theorem round_step {V0 V' pk Z v t c c' xy S X : Nat} (hs : V' + pk * Z = V0 + v * Z) (ht : t = xy + pk + c) (hv : t = v + 4294967296 * c') (hi : V0 + c * Z = S + X) : V' + c' * (Z * 4294967296) = S + (X + xy * Z) := by
  have e : t * Z = xy * Z + pk * Z + c * Z := by rw [ht, Nat.add_mul, Nat.add_mul]
  have e2 : t * Z = v * Z + c' * (Z * 4294967296) := by rw [hv, Nat.add_mul, Nat.mul_comm Z, ← Nat.mul_assoc c', Nat.mul_comm c']
  omega
theorem term (x y p c : Nat) (hx : x < 4294967296) (hy : y < 4294967296) (hp : p < 4294967296) (hc : c < 4294967296) : ∃ t v c', w64 (w64 (w64 (x * y) + p) + c) = t ∧ a64 t 4294967295 = v ∧ r64 t 32 = c' ∧ t = x * y + p + c ∧ t = v + 4294967296 * c' ∧ v < 4294967296 ∧ c' < 4294967296 := by
  have h : x * y ≤ 4294967295 * 4294967295 := Nat.mul_le_mul (by omega) (by omega)
  have e : w64 (w64 (w64 (x * y) + p) + c) = x * y + p + c := by unfold w64; omega
  refine ⟨_, _, _, rfl, rfl, rfl, e, ?_⟩
  rw [e, and32 _ (by omega)]
  have e2 : r64 (x * y + p + c) 32 = (x * y + p + c) / 4294967296 := rfl
  rw [e2]
  omega
def mt (i : Nat) (c : Int) (k : Nat) : List V := [.unk, .unk, .unk, .unk, .ptr 2 0, .ptr 3 0, .ptr 4 0, .ptr 5 0, .int .i64 i, .int .u64 c, .int .i64 k] ++ List.replicate 59 .unk
def mh (x y p : Nat → Nat) : Heap := [none, none, some ⟨.rw, lc 0⟩, some ⟨.rw, wrow 8 x⟩, some ⟨.rw, wrow 8 y⟩, some ⟨.rw, wrow 16 p⟩]
theorem mul_in (x y : Nat → Nat) (hx : ∀ j, x j < 4294967296) (hy : ∀ j, y j < 4294967296) (i S : Nat) (hi : i < 8) {Q : V → Heap → Prop} {K : List TI}
    (hK : ∀ (p : Nat → Nat) (c : Nat), (∀ j, p j < 4294967296) → c < 4294967296 → (∀ j, i + 8 ≤ j → p j = 0) → val p 16 + c * 4294967296 ^ (i + 8) = S + x i * 4294967296 ^ i * val y 8 → Run Tryd.prog G 15 0 Q (K, ⟨mt i c 8, mh x y p⟩)) :
    ∀ kk k, k + kk = 8 → ∀ (p : Nat → Nat) (c : Nat) (ci : Int), ci = (c : Int) → (∀ j, p j < 4294967296) → c < 4294967296 → (∀ j, i + 8 ≤ j → p j = 0) → val p 16 + c * 4294967296 ^ (i + k) = S + x i * 4294967296 ^ i * val y k → Run Tryd.prog G 15 0 Q (.l v15_14 :: .b 2 :: K, ⟨mt i ci k, mh x y p⟩)
  | 0, k, h, p, c, ci, hci, hp, hc, hz, hv => by
    obtain rfl : k = 8 := by omega
    subst hci
    unfold mt mh
    refine run_loop_eq v15_14.eq_1 ?_
    refine run_driveS 80 ?_
    simp only [go_sem, v15_8]
    refine run_exit rfl ?_
    refine run_rename [0, 1, 2, 3, 4, 5] rfl (by simp) ?_ ?_ ?_ (hK p c hp hc hz hv)
    · unfold mh
      simp only [go_sem, hfit, lc_fit, scs_fit, fit, ren, gmap, lw_plain, true_or, or_true]
    · simp [uniq, mh, wrB]
    · unfold mt
      simp only [go_sem, hfit, lc_fit, scs_fit, fit, ren, gmap, lw_plain, true_or, or_true]
  | kk + 1, k, h, p, c, ci, hci, hp, hc, hz, hv => by
    subst hci
    obtain ⟨t, v, c', e1, e2, e3, e4, e5, hv', hc'⟩ := term (x i) (y k) (p (i + k)) c (hx i) (hy k) (hp _) hc
    have hset := val_set p v (n := 16) (i := i + k) (by omega)
    have hup : ∀ j, upd p (i + k) v j < 4294967296 := fun j => by unfold upd; split; exact hv'; exact hp j
    have hzp : ∀ j, i + 8 ≤ j → upd p (i + k) v j = 0 := fun j hj => by rw [upd_ne (by omega)]; exact hz j hj
    have hnew := round_step hset e4 e5 hv
    rw [← Nat.pow_succ, Nat.mul_comm (x i) (y k)] at hnew
    have ih := mul_in x y hx hy i S hi hK kk (k + 1) (by omega) (upd p (i + k) v) c' c' rfl hup hc' hzp (by
      rw [show i + (k + 1) = (i + k).succ by omega, hnew, val, Nat.mul_add, Nat.pow_add]
      congr 2
      rw [Nat.mul_comm (y k) (x i), Nat.mul_assoc, Nat.mul_assoc, Nat.mul_left_comm (y k)])
    have h0 : ((i : Int) < 8) = True := eq_true (by omega)
    have h1 : ((k : Int) < 8) = True := eq_true (by omega)
    have h2 : (((i + k : Nat) : Int) < 16) = True := eq_true (by omega)
    have hw : IntKind.i64.wrap ((i : Int) + (k : Int)) = ((i + k : Nat) : Int) := by rw [wrap_i64 (by omega) (by omega)]; omega
    have hw1 : IntKind.i64.wrap ((k : Int) + 1) = ((k + 1 : Nat) : Int) := by rw [wrap_i64 (by omega) (by omega)]; omega
    have g1 := wrow_get 8 x (i := i) (by omega)
    have g2 := wrow_get 8 y (i := k) (by omega)
    have g3 := wrow_get 16 p (i := i + k) (by omega)
    have g4 := wrow_set 16 p (i := i + k) (v := v) (by omega)
    have g5 : (i + k + 1 ≤ 16) = True := eq_true (by omega)
    unfold mt mh
    refine run_loop_eq v15_14.eq_1 ?_
    refine run_driveS 80 ?_
    simp only [go_sem, v15_8, v15_12, h1]
    refine run_drw (by kernel_rfl) ?_
    refine drun_drive 40 (p := (_, _)) ?_
    simp only [go_sem, v15_9, h0, h1, h2, hw, g1, g2, g3, e1]
    refine drun_end ?_
    refine run_driveS 80 ?_
    simp only [go_sem, v15_10, v15_11, h2, hw, e2, e3, g4, g5]
    refine run_driveS 80 ?_
    simp only [go_sem, v15_13, hw1]
    refine run_rename [0, 1, 2, 3, 4, 5] rfl (by simp) ?_ ?_ ?_ ih
    · unfold mh
      simp only [go_sem, hfit, lc_fit, scs_fit, fit, ren, gmap, lw_plain, true_or, or_true]
    · simp [uniq, mh, wrB]
    · unfold mt
      simp only [go_sem, hfit, lc_fit, scs_fit, fit, ren, gmap, lw_plain, true_or, or_true]
def mo (i : Nat) : List V := [.unk, .unk, .unk, .unk, .ptr 2 0, .ptr 3 0, .ptr 4 0, .ptr 5 0, .int .i64 i] ++ List.replicate 61 .unk
theorem mul_out (x y : Nat → Nat) (hx : ∀ j, x j < 4294967296) (hy : ∀ j, y j < 4294967296) {Q : V → Heap → Prop} {K : List TI}
    (hK : ∀ (p : Nat → Nat), (∀ j, p j < 4294967296) → val p 16 = val x 8 * val y 8 → Run Tryd.prog G 15 0 Q (K, ⟨mo 8, mh x y p⟩)) :
    ∀ n i, i + n = 8 → ∀ (p : Nat → Nat), (∀ j, p j < 4294967296) → (∀ j, i + 8 ≤ j → p j = 0) → val p 16 = val x i * val y 8 → Run Tryd.prog G 15 0 Q (.l v15_19 :: .b 0 :: K, ⟨mo i, mh x y p⟩)
  | 0, i, h, p, hp, hz, hv => by
    obtain rfl : i = 8 := by omega
    unfold mo mh
    refine run_loop_eq v15_19.eq_1 ?_
    refine run_driveS 80 ?_
    simp only [go_sem, v15_5]
    refine run_exit rfl ?_
    refine run_rename [0, 1, 2, 3, 4, 5] rfl (by simp) ?_ ?_ ?_ (hK p hp hv)
    · unfold mh
      simp only [go_sem, hfit, lc_fit, scs_fit, fit, ren, gmap, lw_plain, true_or, or_true]
    · simp [uniq, mh, wrB]
    · unfold mo
      simp only [go_sem, hfit, lc_fit, scs_fit, fit, ren, gmap, lw_plain, true_or, or_true]
  | n + 1, i, h, p, hp, hz, hv => by
    have ih := mul_out x y hx hy hK n (i + 1) (by omega)
    have h0 : ((i : Int) < 8) = True := eq_true (by omega)
    unfold mo mh
    refine run_loop_eq v15_19.eq_1 ?_
    refine run_driveS 80 ?_
    simp only [go_sem, v15_5, v15_17, v15_6, v15_7, v15_15, h0]
    refine run_rename [0, 1, 2, 3, 4, 5] rfl (by simp) ?_ ?_ ?_ (mul_in x y hx hy i (val x i * val y 8) (by omega) (K := .c (.reg v15_16) :: .b 1 :: .c (.reg v15_18) :: .l v15_19 :: .b 0 :: K) ?_ 8 0 rfl p 0 (nl 0) rfl hp (by decide) hz (by rw [hv]; simp only [val, Nat.mul_zero, Nat.zero_mul]))
    · unfold mh
      simp only [go_sem, hfit, lc_fit, scs_fit, fit, ren, gmap, lw_plain, true_or, or_true]
    · simp [uniq, mh, wrB]
    · unfold mt
      simp only [go_sem, hfit, lc_fit, scs_fit, fit, ren, gmap, lw_plain, true_or, or_true]
    · intro p' c hp' hc hz' hv'
      have hset := val_set p' c (n := 16) (i := i + 8) (by omega)
      rw [hz' (i + 8) (Nat.le_refl _), Nat.zero_mul, Nat.add_zero, hv', ← Nat.add_mul] at hset
      have h2 : (((i + 8 : Nat) : Int) < 16) = True := eq_true (by omega)
      have hw : IntKind.i64.wrap ((i : Int) + 8) = ((i + 8 : Nat) : Int) := by rw [wrap_i64 (by omega) (by omega)]; omega
      have hw1 : IntKind.i64.wrap ((i : Int) + 1) = ((i + 1 : Nat) : Int) := by rw [wrap_i64 (by omega) (by omega)]; omega
      have g4 := wrow_set 16 p' (i := i + 8) (v := c) (by omega)
      have g5 : (i + 8 + 1 ≤ 16) = True := eq_true (by omega)
      unfold mt mh
      refine run_driveS 80 ?_
      simp only [go_sem, v15_16, v15_18, h2, hw, hw1, g4, g5]
      refine run_rename [0, 1, 2, 3, 4, 5] rfl (by simp) ?_ ?_ ?_ (ih (upd p' (i + 8) c) (fun j => by unfold upd; split; exact hc; exact hp' j) (fun j hj => by rw [upd_ne (by omega)]; exact hz' j (by omega)) hset)
      · unfold mh
        simp only [go_sem, hfit, lc_fit, scs_fit, fit, ren, gmap, lw_plain, true_or, or_true]
      · simp [uniq, mh, wrB]
      · unfold mo
        simp only [go_sem, hfit, lc_fit, scs_fit, fit, ren, gmap, lw_plain, true_or, or_true]
def mr (m : Nat) : List V := [.unk, .unk, .unk, .unk, .ptr 2 0, .unk, .unk, .ptr 5 0, .unk, .unk, .unk, .unk, .ptr 6 0, .int .i64 ((m : Int) - 1)] ++ List.replicate 56 .unk
def mrh (p : Nat → Nat) (r : Nat) : Heap := [none, none, some ⟨.rw, lc 0⟩, none, none, some ⟨.rw, wrow 16 p⟩, some ⟨.rw, lc (r % ell)⟩]
theorem red_step (r h l : Nat) : (65536 * ((65536 * (r % ell) + h) % ell) + l) % ell = (4294967296 * r + (65536 * h + l)) % ell := by
  have e1 : (65536 * (r % ell) + h) % ell = (65536 * r + h) % ell := by rw [Nat.add_mod, Nat.mul_mod_mod, ← Nat.add_mod]
  rw [e1, Nat.add_mod, Nat.mul_mod_mod, ← Nat.add_mod]
  congr 1
  omega
theorem mul_red (p : Nat → Nat) (hp : ∀ j, p j < 4294967296) {Q : V → Heap → Prop} (hQ : Q (lw (val p 16 % ell)) []) :
    ∀ m, m ≤ 16 → ∀ r, val p 16 = val p m + 4294967296 ^ m * r → Run Tryd.prog G 15 0 Q ([.l v15_28, .b 4, .c (.seq (.reg v15_30) .ret)], ⟨mr m, mrh p r⟩)
  | 0, _, r, hr => by
    rw [val, Nat.pow_zero, Nat.one_mul, Nat.zero_add] at hr
    unfold mr mrh
    refine run_loop_eq v15_28.eq_1 ?_
    refine run_driveS 80 ?_
    simp only [go_sem, v15_23]
    refine run_exit rfl ?_
    refine run_driveS 80 ?_
    simp only [go_sem, v15_30]
    refine run_ret_drop Tryd.func15 res15 [] (lw (val p 16 % ell)) [] rfl (by simp) trivial (by simp [uniq]) ?_ hQ
    simp only [go_sem, rr15, lw_plain, hr]
  | m + 1, hm, r, hr => by
    have hpm := hp m
    have e16 : r64 (p m) 16 = p m / 65536 := rfl
    have eL := and16 (p m) (by omega)
    have ih := mul_red p hp hQ m (by omega) (4294967296 * r + (65536 * (p m / 65536) + p m % 65536)) (by
      rw [hr, val, Nat.div_add_mod, Nat.mul_add, Nat.pow_succ, Nat.mul_assoc, Nat.mul_comm (p m)]
      omega)
    have h0 : ((m : Int) < 16) = True := eq_true (by omega)
    have hg := wrow_get 16 p (i := m) (by omega)
    have hw : IntKind.i64.wrap ((m : Int) - 1) = (m : Int) - 1 := wrap_i64 (by omega) (by omega)
    unfold mr mrh
    rw [show ((m + 1 : Nat) : Int) - 1 = (m : Int) by omega]
    refine run_loop_eq v15_28.eq_1 ?_
    refine run_driveS 80 ?_
    simp only [go_sem, v15_23, v15_26]
    refine run_drw (by kernel_rfl) ?_
    refine drun_drive 40 (p := (_, _)) ?_
    simp only [go_sem, v15_24, h0, hg, e16]
    refine drun_call' ?_
    simp only [go_sem, calV]
    refine ref_step _ _ (mod_lt' _) (by omega) ?_
    refine drun_drive 40 (p := (_, _)) ?_
    simp only [go_sem]
    refine drun_end ?_
    refine run_drw (by kernel_rfl) ?_
    refine drun_drive 40 (p := (_, _)) ?_
    simp only [go_sem, v15_25, h0, hg, eL]
    refine drun_call' ?_
    simp only [go_sem, calV]
    refine ref_step _ _ (mod_lt' _) (by omega) ?_
    rw [red_step]
    refine drun_drive 40 (p := (_, _)) ?_
    simp only [go_sem]
    refine drun_end ?_
    refine run_driveS 80 ?_
    simp only [go_sem, v15_27, hw]
    refine run_rename [0, 1, 2, 3, 4, 5, 6] rfl (by simp) ?_ ?_ ?_ ih
    · unfold mrh
      simp only [go_sem, hfit, lc_fit, scs_fit, fit, ren, gmap, lw_plain, true_or, or_true]
    · simp [uniq, mrh, wrB]
    · unfold mr
      simp only [go_sem, hfit, lc_fit, scs_fit, fit, ren, gmap, lw_plain, true_or, or_true]
theorem ref_mul (A B : Nat) (hA : A < 115792089237316195423570985008687907853269984665640564039457584007913129639936) (hB : B < 115792089237316195423570985008687907853269984665640564039457584007913129639936) {h : Heap} {R : V → Heap → Prop} (hQ : R (lw (A * B % ell)) h) : VCall Tryd.prog G 15 [lw A, lw B] h R := by
  refine vcall_plain (Q := fun v => v = lw (A * B % ell)) ?_ (fun g => by simp only [rens, ren, lw_plain]) (fun v g hv => by subst hv; exact lw_plain _ g) (fun v hv => by subst hv; exact hQ)
  refine vcall_body Tryd.func15 nm15 code15 nt15 ?_
  refine run_driveS 80 ?_
  simp only [go_sem, v15, v15_0, v15_1]
  refine run_call' rfl ?_
  simp only [go_sem, calV]
  refine ref_halves A hA ?_
  refine run_driveS 80 ?_
  simp only [go_sem, v15_2]
  refine run_call' rfl ?_
  simp only [go_sem, calV]
  refine ref_halves B hB ?_
  refine run_driveS 80 ?_
  simp only [go_sem, v15_3, v15_4, v15_20]
  have vA : val (dg A) 8 = A := by rw [val_dg]; exact Nat.mod_eq_of_lt hA
  have vB : val (dg B) 8 = B := by rw [val_dg]; exact Nat.mod_eq_of_lt hB
  refine run_rename [0, 1, 2, 3, 4, 5] rfl (by simp) ?_ ?_ ?_ (mul_out (dg A) (dg B) (dg_lt A) (dg_lt B) (K := [.c (.seq (.reg v15_21) (.seq (.seq (.reg v15_22) (.block 4 v15_29)) (.seq (.reg v15_30) .ret)))]) ?_ 8 0 rfl (fun _ => 0) (fun _ => by decide) (fun _ _ => rfl) (by simp [val]))
  · unfold mh
    rw [show wrow 16 (fun _ => 0) = [.int .u64 (nl 0), .int .u64 (nl 0), .int .u64 (nl 0), .int .u64 (nl 0), .int .u64 (nl 0), .int .u64 (nl 0), .int .u64 (nl 0), .int .u64 (nl 0), .int .u64 (nl 0), .int .u64 (nl 0), .int .u64 (nl 0), .int .u64 (nl 0), .int .u64 (nl 0), .int .u64 (nl 0), .int .u64 (nl 0), .int .u64 (nl 0)] from rfl]
    simp only [go_sem, hfit, lc_fit, scs_fit, fit, ren, gmap, lw_plain, true_or, or_true, lc_zero]
  · simp [uniq, mh, wrB]
  · unfold mo
    simp only [go_sem, hfit, lc_fit, scs_fit, fit, ren, gmap, lw_plain, true_or, or_true]
  · intro p hp hv
    rw [vA, vB] at hv
    unfold mo mh
    refine run_driveS 80 ?_
    simp only [go_sem, v15_21, v15_22, v15_29]
    refine run_rename [0, 1, 2, 3, 4, 5, 6] rfl (by simp) ?_ ?_ ?_ (mul_red p hp ⟨by rw [hv], rfl⟩ 16 (Nat.le_refl 16) 0 (by rw [Nat.mul_zero, Nat.add_zero]))
    · unfold mrh
      rw [Nat.zero_mod]
      simp only [go_sem, hfit, lc_fit, scs_fit, fit, ren, gmap, lw_plain, true_or, or_true, lc_zero]
    · simp [uniq, mrh, wrB]
    · unfold mr
      simp only [go_sem, hfit, lc_fit, scs_fit, fit, ren, gmap, lw_plain, true_or, or_true]
end
section
attribute [local go_sem ↓] lc_len lc_take lc_drop lc_known lc_one lc_rens lc_cells lw_known lw_agg lw_asG
attribute [local go_sem] lt_nat lt_natl lt_lnat lt_ll
set_option maxRecDepth 100000
set_option maxHeartbeats 1000000
theorem cancel2 {p q : Nat} (h : 2 * p % ell = 2 * q % ell) : p % ell = q % ell := by
  have e : 3618502788666131106986593281521497120428558179689953803000975469142727125495 * 2 % ell = 1 := by decide
  have k : ∀ z, z % ell = 3618502788666131106986593281521497120428558179689953803000975469142727125495 * (2 * z) % ell := fun z => by
    rw [← Nat.mul_assoc, Nat.mul_mod, e, Nat.one_mul, Nat.mod_mod]
  rw [k p, k q, Nat.mul_mod, h, ← Nat.mul_mod]
structure Good (a U W X Y : Nat) : Prop where
  u0 : 0 < U
  w0 : 0 < W
  u1 : U < ell
  w1 : W ≤ ell
  x1 : X < ell
  y1 : Y < ell
  co : Nat.gcd U W = 1
  ux : a * X % ell = U % ell
  wy : a * Y % ell = W % ell
theorem half_rel {a U X H1 H2 : Nat} (h1 : 2 * H1 = U) (h2 : X % 2 = 0 → 2 * H2 = X) (h3 : X % 2 = 1 → 2 * H2 = X + ell) (h : a * X % ell = U % ell) : a * H2 % ell = H1 % ell := by
  apply cancel2
  have e : 2 * (a * H2) % ell = a * X % ell := by
    rw [Nat.mul_left_comm]
    rcases Nat.mod_two_eq_zero_or_one X with hx | hx
    · rw [h2 hx]
    · rw [h3 hx, Nat.mul_add, Nat.mul_comm a ell, Nat.add_mul_mod_self_left]
  rw [e, h1, h]
theorem Good.halfU {a U W X Y H1 H2 : Nat} (g : Good a U W X Y) (h1 : 2 * H1 = U) (hH : H2 < ell) (h2 : X % 2 = 0 → 2 * H2 = X) (h3 : X % 2 = 1 → 2 * H2 = X + ell) : Good a H1 W H2 Y where
  u0 := by have := g.u0; omega
  w0 := g.w0
  u1 := by have := g.u1; omega
  w1 := g.w1
  x1 := hH
  y1 := g.y1
  co := Nat.Coprime.coprime_dvd_left ⟨2, by omega⟩ g.co
  ux := half_rel h1 h2 h3 g.ux
  wy := g.wy
theorem Good.halfW {a U W X Y H1 H2 : Nat} (g : Good a U W X Y) (h1 : 2 * H1 = W) (hH : H2 < ell) (h2 : Y % 2 = 0 → 2 * H2 = Y) (h3 : Y % 2 = 1 → 2 * H2 = Y + ell) : Good a U H1 X H2 where
  u0 := g.u0
  w0 := by have := g.w0; omega
  u1 := g.u1
  w1 := by have := g.w1; omega
  x1 := g.x1
  y1 := hH
  co := Nat.Coprime.coprime_dvd_right ⟨2, by omega⟩ g.co
  ux := g.ux
  wy := half_rel h1 h2 h3 g.wy
theorem sub_rel {a U W D X Y : Nat} (hD : W = U + D) (hX : X ≤ ell) (h1 : a * X % ell = U % ell) (h2 : a * Y % ell = W % ell) : a * ((Y + (ell - X)) % ell) % ell = D % ell := by
  rw [mmod']
  have e : (a * (Y + (ell - X)) + U) % ell = (D + U) % ell := by
    rw [Nat.add_mod, ← h1, ← Nat.add_mod, ← Nat.mul_add, show Y + (ell - X) + X = Y + ell by omega, Nat.mul_add, Nat.mul_comm a ell, Nat.add_mul_mod_self_left, h2, hD, Nat.add_comm]
  obtain ⟨c, hc⟩ : ∃ c, (U + c) % ell = 0 := ⟨ell - U % ell, by
    have hm := mod_lt' U
    rw [← Nat.mod_add_mod, Nat.add_sub_cancel' (Nat.le_of_lt hm), Nat.mod_self]⟩
  have k : ∀ z, z % ell = (z + U + c) % ell := fun z => by rw [Nat.add_assoc, Nat.add_mod, hc, Nat.add_zero, Nat.mod_mod]
  rw [k, k D, Nat.add_mod, e, ← Nat.add_mod]
theorem Good.subW {a U W X Y D : Nat} (g : Good a U W X Y) (hD : W = U + D) (h0 : 0 < D) : Good a U D X ((Y + (ell - X)) % ell) where
  u0 := g.u0
  w0 := h0
  u1 := g.u1
  w1 := by have := g.w1; omega
  x1 := g.x1
  y1 := mod_lt' _
  co := by
    have := g.co
    rw [hD, Nat.gcd_self_add_right] at this
    exact this
  ux := g.ux
  wy := sub_rel hD (Nat.le_of_lt g.x1) g.ux g.wy
theorem Good.subU {a U W X Y D : Nat} (g : Good a U W X Y) (hD : U = W + D) (h0 : 0 < D) : Good a D W ((X + (ell - Y)) % ell) Y where
  u0 := h0
  w0 := g.w0
  u1 := by have := g.u1; omega
  w1 := g.w1
  x1 := mod_lt' _
  y1 := g.y1
  co := by
    have := g.co
    rw [hD, Nat.gcd_comm, Nat.gcd_self_add_right, Nat.gcd_comm] at this
    exact this
  ux := sub_rel hD (Nat.le_of_lt g.y1) g.wy g.ux
  wy := g.wy
def gt : List V := [.unk, .unk, .ptr 1 0, .ptr 2 0, .ptr 3 0, .ptr 4 0, .ptr 5 0, .ptr 6 0] ++ List.replicate 58 .unk
def gh (U W X Y : Nat) : Heap := [none, some ⟨.rw, lc 0⟩, some ⟨.rw, lc U⟩, some ⟨.rw, lc W⟩, some ⟨.rw, lc X⟩, some ⟨.rw, lc Y⟩, some ⟨.rw, lc 1⟩]
theorem lc_first (A : Nat) : List.take 1 (lc A) = [.int .u64 ((A % 18446744073709551616 : Nat) : Int)] := rfl
theorem and_par (A : Nat) : a64 (A % 18446744073709551616) 1 = A % 2 := by rw [and_one]; omega
theorem inv_u (a W Y : Nat) {Q : V → Heap → Prop} {K : List TI} : ∀ (N U X : Nat), U ≤ N → Good a U W X Y →
    (∀ U' X', Good a U' W X' Y → U' % 2 = 1 → U' ≤ U → (U % 2 = 1 → U' = U) → Run Tryd.prog G 86 0 Q (K, ⟨gt, gh U' W X' Y⟩)) → Run Tryd.prog G 86 0 Q (.l v86_13 :: .b 2 :: K, ⟨gt, gh U W X Y⟩)
  | 0, U, X, hN, g, _ => by have := g.u0; omega
  | N + 1, U, X, hN, g, hK => by
    have g1 := lc_first U
    have g2 := and_par U
    have hu := g.u0
    unfold gt gh
    by_cases hp : U % 2 = 0
    · have hd : decide (U % 2 = 0) = true := decide_eq_true hp
      refine run_loop_eq v86_13.eq_1 ?_
      refine run_driveS 80 ?_
      simp only [go_sem, v86_9, v86_12, v86_10, g1, g2, hd]
      refine run_call' rfl ?_
      simp only [go_sem, calV]
      refine ref_half U g.u1 fun H1 hH1 e1 _ => ?_
      refine run_driveS 80 ?_
      simp only [go_sem, v86_11]
      refine run_call' rfl ?_
      simp only [go_sem, calV]
      refine ref_half X g.x1 fun H2 hH2 e2 e3 => ?_
      refine run_driveS 80 ?_
      simp only [go_sem]
      have g' := g.halfU (e1 hp) hH2 e2 e3
      have e1 := e1 hp
      refine run_rename [0, 1, 2, 3, 4, 5, 6] rfl (by simp) ?_ ?_ ?_ (inv_u a W Y N H1 H2 (by omega) g' fun U' X' k1 k2 k3 k4 => hK U' X' k1 k2 (by omega) (fun k => by omega))
      · unfold gh
        simp only [go_sem, hfit, lc_fit, scs_fit, fit, ren, gmap, lw_plain, true_or, or_true]
      · simp [uniq, gh, wrB]
      · unfold gt
        simp only [go_sem, hfit, lc_fit, scs_fit, fit, ren, gmap, lw_plain, true_or, or_true]
    · have hd : decide (U % 2 = 0) = false := decide_eq_false hp
      refine run_loop_eq v86_13.eq_1 ?_
      refine run_driveS 80 ?_
      simp only [go_sem, v86_9, g1, g2, hd]
      refine run_exit rfl ?_
      refine run_rename [0, 1, 2, 3, 4, 5, 6] rfl (by simp) ?_ ?_ ?_ (hK U X g (by omega) (Nat.le_refl _) (fun _ => rfl))
      · unfold gh
        simp only [go_sem, hfit, lc_fit, scs_fit, fit, ren, gmap, lw_plain, true_or, or_true]
      · simp [uniq, gh, wrB]
      · unfold gt
        simp only [go_sem, hfit, lc_fit, scs_fit, fit, ren, gmap, lw_plain, true_or, or_true]
theorem inv_w (a U X : Nat) {Q : V → Heap → Prop} {K : List TI} : ∀ (N W Y : Nat), W ≤ N → Good a U W X Y →
    (∀ W' Y', Good a U W' X Y' → W' % 2 = 1 → W' ≤ W → (W % 2 = 1 → W' = W) → Run Tryd.prog G 86 0 Q (K, ⟨gt, gh U W' X Y'⟩)) → Run Tryd.prog G 86 0 Q (.l v86_19 :: .b 4 :: K, ⟨gt, gh U W X Y⟩)
  | 0, W, Y, hN, g, _ => by have := g.w0; omega
  | N + 1, W, Y, hN, g, hK => by
    have g1 := lc_first W
    have g2 := and_par W
    have hu := g.w0
    have hw1 := g.w1
    have hodd : ell % 2 = 1 := by decide
    unfold gt gh
    by_cases hp : W % 2 = 0
    · have hd : decide (W % 2 = 0) = true := decide_eq_true hp
      refine run_loop_eq v86_19.eq_1 ?_
      refine run_driveS 80 ?_
      simp only [go_sem, v86_15, v86_18, v86_16, g1, g2, hd]
      refine run_call' rfl ?_
      simp only [go_sem, calV]
      refine ref_half W (by omega) fun H1 hH1 e1 _ => ?_
      refine run_driveS 80 ?_
      simp only [go_sem, v86_17]
      refine run_call' rfl ?_
      simp only [go_sem, calV]
      refine ref_half Y g.y1 fun H2 hH2 e2 e3 => ?_
      refine run_driveS 80 ?_
      simp only [go_sem]
      have g' := g.halfW (e1 hp) hH2 e2 e3
      have e1 := e1 hp
      refine run_rename [0, 1, 2, 3, 4, 5, 6] rfl (by simp) ?_ ?_ ?_ (inv_w a U X N H1 H2 (by omega) g' fun U' X' k1 k2 k3 k4 => hK U' X' k1 k2 (by omega) (fun k => by omega))
      · unfold gh
        simp only [go_sem, hfit, lc_fit, scs_fit, fit, ren, gmap, lw_plain, true_or, or_true]
      · simp [uniq, gh, wrB]
      · unfold gt
        simp only [go_sem, hfit, lc_fit, scs_fit, fit, ren, gmap, lw_plain, true_or, or_true]
    · have hd : decide (W % 2 = 0) = false := decide_eq_false hp
      refine run_loop_eq v86_19.eq_1 ?_
      refine run_driveS 80 ?_
      simp only [go_sem, v86_15, g1, g2, hd]
      refine run_exit rfl ?_
      refine run_rename [0, 1, 2, 3, 4, 5, 6] rfl (by simp) ?_ ?_ ?_ (hK W Y g (by omega) (Nat.le_refl _) (fun _ => rfl))
      · unfold gh
        simp only [go_sem, hfit, lc_fit, scs_fit, fit, ren, gmap, lw_plain, true_or, or_true]
      · simp [uniq, gh, wrB]
      · unfold gt
        simp only [go_sem, hfit, lc_fit, scs_fit, fit, ren, gmap, lw_plain, true_or, or_true]
end
section
attribute [local go_sem ↓] lc_len lc_take lc_drop lc_known lc_one lc_rens lc_cells lw_known lw_agg lw_asG
attribute [local go_sem] lt_nat lt_natl lt_lnat lt_ll
set_option maxRecDepth 100000
set_option maxHeartbeats 1000000
theorem one_lt : 1 < 115792089237316195423570985008687907853269984665640564039457584007913129639936 := by decide
theorem inv_out (a : Nat) {Q : V → Heap → Prop} {K : List TI}
    (hK : ∀ U W X Y, Good a U W X Y → (U = 1 ∨ W = 1) → Run Tryd.prog G 86 0 Q (K, ⟨gt, gh U W X Y⟩)) : ∀ N U W X Y, U + W ≤ N → Good a U W X Y → Run Tryd.prog G 86 0 Q (.l v86_27 :: .b 0 :: K, ⟨gt, gh U W X Y⟩)
  | 0, U, W, X, Y, hN, g => by have := g.u0; omega
  | N + 1, U, W, X, Y, hN, g => by
    have hl := ell_lt
    have hu := g.u1
    have hw := g.w1
    have q1 := lc_eqL (A := U) (B := 1) (by omega) one_lt
    have q2 := lc_eqL (A := W) (B := 1) (by omega) one_lt
    unfold gt gh
    by_cases hU : U = 1
    · have hd : decide (U = 1) = true := decide_eq_true hU
      refine run_loop_eq v86_27.eq_1 ?_
      refine run_driveS 80 ?_
      simp only [go_sem, v86_8, q1, hd]
      refine run_exit rfl ?_
      refine run_rename [0, 1, 2, 3, 4, 5, 6] rfl (by simp) ?_ ?_ ?_ (hK U W X Y g (.inl hU))
      · unfold gh
        simp only [go_sem, hfit, lc_fit, scs_fit, fit, ren, gmap, lw_plain, true_or, or_true]
      · simp [uniq, gh, wrB]
      · unfold gt
        simp only [go_sem, hfit, lc_fit, scs_fit, fit, ren, gmap, lw_plain, true_or, or_true]
    · have hd : decide (U = 1) = false := decide_eq_false hU
      by_cases hW : W = 1
      · have hd2 : decide (W = 1) = true := decide_eq_true hW
        refine run_loop_eq v86_27.eq_1 ?_
        refine run_driveS 80 ?_
        simp only [go_sem, v86_8, q1, hd, q2, hd2]
        refine run_exit rfl ?_
        refine run_rename [0, 1, 2, 3, 4, 5, 6] rfl (by simp) ?_ ?_ ?_ (hK U W X Y g (.inr hW))
        · unfold gh
          simp only [go_sem, hfit, lc_fit, scs_fit, fit, ren, gmap, lw_plain, true_or, or_true]
        · simp [uniq, gh, wrB]
        · unfold gt
          simp only [go_sem, hfit, lc_fit, scs_fit, fit, ren, gmap, lw_plain, true_or, or_true]
      · have hd2 : decide (W = 1) = false := decide_eq_false hW
        refine run_loop_eq v86_27.eq_1 ?_
        refine run_driveS 80 ?_
        simp only [go_sem, v86_8, v86_26, v86_14, q1, hd, q2, hd2]
        refine run_rename [0, 1, 2, 3, 4, 5, 6] rfl (by simp) ?_ ?_ ?_ (inv_u a W Y (K := .c (.seq (.block 4 v86_20) (.seq (.reg v86_21) (.cond (.t 42) (.seq (.reg v86_22) (.reg v86_23)) (.seq (.reg v86_24) (.reg v86_25))))) :: .b 1 :: .l v86_27 :: .b 0 :: K) U U X (Nat.le_refl U) g fun U' X' g' o1 o2 o3 => ?_)
        · unfold gh
          simp only [go_sem, hfit, lc_fit, scs_fit, fit, ren, gmap, lw_plain, true_or, or_true]
        · simp [uniq, gh, wrB]
        · unfold gt
          simp only [go_sem, hfit, lc_fit, scs_fit, fit, ren, gmap, lw_plain, true_or, or_true]
        · unfold gt gh
          refine run_driveS 80 ?_
          simp only [go_sem, v86_20]
          refine run_rename [0, 1, 2, 3, 4, 5, 6] rfl (by simp) ?_ ?_ ?_ (inv_w a U' X' (K := .c (.seq (.reg v86_21) (.cond (.t 42) (.seq (.reg v86_22) (.reg v86_23)) (.seq (.reg v86_24) (.reg v86_25)))) :: .b 1 :: .l v86_27 :: .b 0 :: K) W W Y (Nat.le_refl W) g' fun W' Y' g2 o4 o5 o6 => ?_)
          · unfold gh
            simp only [go_sem, hfit, lc_fit, scs_fit, fit, ren, gmap, lw_plain, true_or, or_true]
          · simp [uniq, gh, wrB]
          · unfold gt
            simp only [go_sem, hfit, lc_fit, scs_fit, fit, ren, gmap, lw_plain, true_or, or_true]
          · have hu2 := g2.u1
            have hw2 := g2.w1
            have hu0 := g2.u0
            have hw0 := g2.w0
            have hne : U' ≠ W' := by
              intro e
              have c2 := g2.co
              rw [e, Nat.gcd_self] at c2
              have hco := g.co
              rcases Nat.mod_two_eq_zero_or_one U with hU2 | hU2
              · rcases Nat.mod_two_eq_zero_or_one W with hW2 | hW2
                · have : 2 ∣ Nat.gcd U W := Nat.dvd_gcd (Nat.dvd_of_mod_eq_zero hU2) (Nat.dvd_of_mod_eq_zero hW2)
                  rw [hco] at this
                  have := Nat.le_of_dvd (by decide) this
                  omega
                · have := o6 hW2; omega
              · have := o3 hU2; omega
            unfold gt gh
            refine run_driveS 80 ?_
            simp only [go_sem, v86_21]
            refine run_call' rfl ?_
            simp only [go_sem, calV]
            refine ref_below U' W' (by omega) (by omega) ?_
            refine run_driveS 80 ?_
            simp only [go_sem]
            by_cases hlt : U' < W'
            · refine run_cond_t (by simp only [go_sem, decide_eq_true hlt]) ?_
              refine run_driveS 80 ?_
              simp only [go_sem, v86_22]
              refine run_call' rfl ?_
              simp only [go_sem, calV]
              refine ref_minus W' U' (by omega) (by omega) fun D b hD hb he => ?_
              have hD' : W' = U' + D := by omega
              refine run_driveS 80 ?_
              simp only [go_sem, v86_23]
              refine run_call' rfl ?_
              simp only [go_sem, calV]
              refine ref_sub Y' X' g2.y1 g2.x1 ?_
              refine run_driveS 80 ?_
              simp only [go_sem]
              refine run_rename [0, 1, 2, 3, 4, 5, 6] rfl (by simp) ?_ ?_ ?_ (inv_out a hK N U' D X' _ (by omega) (g2.subW hD' (by omega)))
              · unfold gh
                simp only [go_sem, hfit, lc_fit, scs_fit, fit, ren, gmap, lw_plain, true_or, or_true]
              · simp [uniq, gh, wrB]
              · unfold gt
                simp only [go_sem, hfit, lc_fit, scs_fit, fit, ren, gmap, lw_plain, true_or, or_true]
            · refine run_cond_f (by simp only [go_sem, decide_eq_false hlt]) ?_
              refine run_driveS 80 ?_
              simp only [go_sem, v86_24]
              refine run_call' rfl ?_
              simp only [go_sem, calV]
              refine ref_minus U' W' (by omega) (by omega) fun D b hD hb he => ?_
              have hD' : U' = W' + D := by omega
              refine run_driveS 80 ?_
              simp only [go_sem, v86_25]
              refine run_call' rfl ?_
              simp only [go_sem, calV]
              refine ref_sub X' Y' g2.x1 g2.y1 ?_
              refine run_driveS 80 ?_
              simp only [go_sem]
              refine run_rename [0, 1, 2, 3, 4, 5, 6] rfl (by simp) ?_ ?_ ?_ (inv_out a hK N D W' _ Y' (by omega) (g2.subU hD' (by omega)))
              · unfold gh
                simp only [go_sem, hfit, lc_fit, scs_fit, fit, ren, gmap, lw_plain, true_or, or_true]
              · simp [uniq, gh, wrB]
              · unfold gt
                simp only [go_sem, hfit, lc_fit, scs_fit, fit, ren, gmap, lw_plain, true_or, or_true]
theorem ref_invert (A : Nat) (hA : A < ell) {h : Heap} {R : V → Heap → Prop} (hQ : R (lw (linv A)) h) : VCall Tryd.prog G 86 [lw A] h R := by
  have hl := ell_lt
  refine vcall_plain (Q := fun v => v = lw (linv A)) ?_ (fun g => by simp only [rens, ren, lw_plain]) (fun v g hv => by subst hv; exact lw_plain _ g) (fun v hv => by subst hv; exact hQ)
  refine vcall_body Tryd.func86 nm86 code86 nt86 ?_
  refine run_driveS 80 ?_
  simp only [go_sem, v86, v86_0, v86_1]
  refine run_call' rfl ?_
  simp only [go_sem, calV]
  refine ref_zero A (by omega) ?_
  refine run_driveS 80 ?_
  simp only [go_sem]
  by_cases h0 : A = 0
  · refine run_cond_t (by simp only [go_sem, decide_eq_true h0]) ?_
    refine run_driveS 80 ?_
    simp only [go_sem, v86_2]
    refine run_ret_drop Tryd.func86 res86 [] (lw (linv A)) [] rfl (by simp) trivial (by simp [uniq]) ?_ ⟨rfl, rfl⟩
    rw [show linv A = A by rw [h0]; exact linv_zero (Nat.zero_mod _)]
    simp only [go_sem, rr86, lw_plain]
  · refine run_cond_f (by simp only [go_sem, decide_eq_false h0]) ?_
    refine run_driveS 80 ?_
    simp only [go_sem, v86_3, v86_4]
    refine run_call' rfl ?_
    simp only [go_sem, calV]
    refine ref_l ?_
    refine run_driveS 80 ?_
    simp only [go_sem, v86_5]
    refine run_call' rfl ?_
    simp only [go_sem, calV]
    refine ref_int' 1 (by decide) ?_
    refine run_driveS 80 ?_
    simp only [go_sem, v86_6, v86_7]
    refine run_call' rfl ?_
    simp only [go_sem, calV]
    refine ref_int' 1 (by decide) ?_
    refine run_driveS 80 ?_
    simp only [go_sem, v86_28]
    have hne : A % ell ≠ 0 := by rw [Nat.mod_eq_of_lt hA]; exact h0
    have g0 : Good A A ell 1 0 := {
      u0 := by omega
      w0 := ell_pos
      u1 := hA
      w1 := Nat.le_refl _
      x1 := by decide
      y1 := by decide
      co := by
        rw [Nat.gcd_comm]
        exact Pr.pr_cop Pr.p8 fun hd => hne (Nat.mod_eq_zero_of_dvd hd)
      ux := by rw [Nat.mul_one]
      wy := by rw [Nat.mul_zero, Nat.zero_mod, Nat.mod_self] }
    refine run_rename [0, 1, 2, 3, 4, 5, 6] rfl (by simp) ?_ ?_ ?_ (inv_out A (K := [.c (.seq (.seq (.reg v86_29) (.cond (.t 63) (.seq (.reg v86_30) .ret) .skip)) (.seq (.reg v86_31) .ret))]) (fun U W X Y g hor => ?_) _ A ell 1 0 (Nat.le_refl _) g0)
    · unfold gh
      simp only [go_sem, hfit, lc_fit, scs_fit, fit, ren, gmap, lw_plain, true_or, or_true, lc_zero]
    · simp [uniq, gh, wrB]
    · unfold gt
      simp only [go_sem, hfit, lc_fit, scs_fit, fit, ren, gmap, lw_plain, true_or, or_true]
    · have hu := g.u1
      have q1 := lc_eqL (A := U) (B := 1) (by omega) one_lt
      unfold gt gh
      refine run_driveS 80 ?_
      simp only [go_sem, v86_29, q1]
      by_cases hU : U = 1
      · refine run_cond_t (by simp only [go_sem, decide_eq_true hU]) ?_
        refine run_driveS 80 ?_
        simp only [go_sem, v86_30]
        refine run_ret_drop Tryd.func86 res86 [] (lw (linv A)) [] rfl (by simp) trivial (by simp [uniq]) ?_ ⟨rfl, rfl⟩
        have hx := g.ux
        rw [hU, Nat.mul_comm] at hx
        rw [← linv_of g.x1 (hx.trans rfl)]
        simp only [go_sem, rr86, lw_plain]
      · refine run_cond_f (by simp only [go_sem, decide_eq_false hU]) ?_
        refine run_driveS 80 ?_
        simp only [go_sem, v86_31]
        refine run_ret_drop Tryd.func86 res86 [] (lw (linv A)) [] rfl (by simp) trivial (by simp [uniq]) ?_ ⟨rfl, rfl⟩
        have hy := g.wy
        rcases hor with h | h
        · exact (hU h).elim
        · rw [h, Nat.mul_comm] at hy
          rw [← linv_of g.y1 (hy.trans rfl)]
          simp only [go_sem, rr86, lw_plain]
end
section
attribute [local go_sem ↓] lc_len lc_take lc_drop lc_known lc_one lc_rens lc_cells lw_known lw_agg lw_asG
attribute [local go_sem] lt_nat lt_natl lt_lnat lt_ll
set_option maxRecDepth 100000
set_option maxHeartbeats 1000000
def pz : List V := [.int .i64 0, .int .i64 0, .int .i64 0, .int .i64 0, .int .i64 0, .int .i64 0, .int .i64 0, .int .i64 0, .int .i64 0, .int .i64 0, .int .i64 0, .int .i64 0, .int .i64 0, .int .i64 0, .int .i64 0, .int .i64 0, .int .i64 0, .int .i64 0, .int .i64 0, .int .i64 0]
def ecs (k : Nat) : List V := .int .i64 2 :: (pz ++ (lc k ++ [.nils]))
def ew (k : Nat) : V := .agg (ecs k)
theorem ecs_len (k : Nat) : (ecs k).length = 26 := rfl
theorem ecs_take (k : Nat) : (ecs k).take 26 = ecs k := rfl
theorem ecs_drop (k : Nat) : (ecs k).drop 26 = [] := rfl
theorem ecs_known (k : Nat) : (ecs k).all V.known = true := rfl
theorem ecs_one (k : Nat) : (ecs k).all V.one = true := rfl
theorem ecs_rens (k : Nat) (g : Nat → Nat) : rens g (ecs k) = ecs k := by simp only [ecs, pz, rens, rens_append, lc_rens, ren]
theorem ecs_fit (g : Nat → Nat) (k : Nat) : fit g (ecs k) (ecs k) := fit_same (ecs_rens k g)
theorem ecs_cells (k : Nat) : cellsOf (ew k) = ecs k := rfl
theorem ew_known (k : Nat) : (ew k).known = true := rfl
theorem ew_agg (k : Nat) : V.agg (ecs k) = ew k := rfl
theorem ew_asG (k : Nat) : asG (ew k) = some (ecs k) := rfl
theorem ew_plain (k : Nat) (g : Nat → Nat) : ren g (ew k) = ew k := by simp only [ew, ren, ecs_rens]
theorem ecs_kind (k : Nat) : (ecs k).take 1 = [.int .i64 2] := rfl
theorem ecs_k (k : Nat) : ((ecs k).drop 21).take 4 = lc k := rfl
theorem ecs_l (k : Nat) : ((ecs k).drop 25).take 1 = [.nils] := rfl
attribute [local go_sem ↓] ecs_len ecs_take ecs_drop ecs_known ecs_one ecs_rens ecs_fit ecs_cells ew_known ew_agg ew_asG ecs_kind ecs_k ecs_l
theorem line_of (k : Nat) {h : Heap} {R : V → Heap → Prop} (hQ : R (ew k) h) : VCall Tryd.prog G 16 [lw k] h R := by
  refine vcall_plain (Q := fun v => v = ew k) ?_ (fun g => by simp only [rens, lw_plain]) (fun v g hv => by subst hv; exact ew_plain _ g) (fun v hv => by subst hv; exact hQ)
  refine vcall_body Tryd.func16 nm16 code16 nt16 ?_
  refine run_driveS 80 ?_
  simp only [go_sem, v16, v16_0, v16_1]
  refine run_ret_drop Tryd.func16 res16 [] (ew k) [] rfl (by simp) trivial (by simp [uniq]) ?_ ⟨rfl, rfl⟩
  simp only [go_sem, rr16, ew_plain]
  rfl
theorem e_times (a k : Nat) (ha : a < 115792089237316195423570985008687907853269984665640564039457584007913129639936) (hk : k < 115792089237316195423570985008687907853269984665640564039457584007913129639936) {h : Heap} {R : V → Heap → Prop} (hQ : R (ew (a * k % ell)) h) : VCall Tryd.prog G 56 [ew a, lw k] h R := by
  refine vcall_plain (Q := fun v => v = ew (a * k % ell)) ?_ (fun g => by simp only [rens, lw_plain, ew_plain]) (fun v g hv => by subst hv; exact ew_plain _ g) (fun v hv => by subst hv; exact hQ)
  refine vcall_body Tryd.func56 nm56 code56 nt56 ?_
  refine run_driveS 80 ?_
  simp only [go_sem, v56, v56_0, v56_1, v56_2, v56_6]
  refine run_cond_f (by simp only [go_sem]; rfl) ?_
  refine run_driveS 80 ?_
  simp only [go_sem, v56_4]
  refine run_cond_t (by simp only [go_sem]) ?_
  refine run_driveS 80 ?_
  simp only [go_sem, v56_5]
  refine run_call' rfl ?_
  simp only [go_sem, calV]
  refine ref_mul a k ha hk ?_
  refine run_driveS 80 ?_
  simp only [go_sem]
  refine run_call' rfl ?_
  simp only [go_sem, calV]
  refine line_of _ ?_
  refine run_driveS 80 ?_
  simp only [go_sem]
  refine run_ret_drop Tryd.func56 res56 [] (ew (a * k % ell)) [] rfl (by simp) trivial (by simp [uniq]) ?_ ⟨rfl, rfl⟩
  simp only [go_sem, rr56, ew_plain]
theorem e_add (a b : Nat) (ha : a < ell) (hb : b < ell) {h : Heap} {R : V → Heap → Prop} (hQ : R (ew ((a + b) % ell)) h) : VCall Tryd.prog G 57 [ew a, ew b] h R := by
  refine vcall_plain (Q := fun v => v = ew ((a + b) % ell)) ?_ (fun g => by simp only [rens, lw_plain, ew_plain]) (fun v g hv => by subst hv; exact ew_plain _ g) (fun v hv => by subst hv; exact hQ)
  refine vcall_body Tryd.func57 nm57 code57 nt57 ?_
  refine run_driveS 80 ?_
  simp only [go_sem, v57, v57_0, v57_1, v57_2, v57_6]
  refine run_cond_f (by simp only [go_sem]; rfl) ?_
  refine run_driveS 80 ?_
  simp only [go_sem, v57_4]
  refine run_cond_t (by simp only [go_sem]) ?_
  refine run_driveS 80 ?_
  simp only [go_sem, v57_5]
  refine run_call' rfl ?_
  simp only [go_sem, calV]
  refine ref_add a b ha hb ?_
  refine run_driveS 80 ?_
  simp only [go_sem]
  refine run_call' rfl ?_
  simp only [go_sem, calV]
  refine line_of _ ?_
  refine run_driveS 80 ?_
  simp only [go_sem]
  refine run_ret_drop Tryd.func57 res57 [] (ew ((a + b) % ell)) [] rfl (by simp) trivial (by simp [uniq]) ?_ ⟨rfl, rfl⟩
  simp only [go_sem, rr57, ew_plain]
end
section
attribute [local go_sem ↓] lc_len lc_take lc_drop lc_known lc_one lc_rens lc_cells lw_known lw_agg lw_asG scs_known scs_one scs_len
set_option maxRecDepth 100000
set_option maxHeartbeats 1000000
theorem lc_take_add (a k : Nat) (l : List V) : (lc a ++ l).take (k + 4) = lc a ++ l.take k := rfl
theorem lc_drop_add (a k : Nat) (l : List V) : (lc a ++ l).drop (k + 4) = l.drop k := rfl
attribute [local go_sem ↓] lc_take_add lc_drop_add
attribute [local go_sem] bool_tf bool_ft
def stL (P Q : Nat) (g h : V) : V := .agg (lc P ++ (lc Q ++ [g, h]))
def arL (l r : V) (a b : Nat) : V := .agg (l :: r :: (lc a ++ lc b))
theorem stL_ren (P Q : Nat) (x y : V) (g : Nat → Nat) : ren g (stL P Q x y) = stL P Q (ren g x) (ren g y) := by simp only [stL, ren, rens_append, lc_rens, rens]
theorem arL_ren (x y : V) (a b : Nat) (g : Nat → Nat) : ren g (arL x y a b) = arL (ren g x) (ren g y) a b := by simp only [arL, ren, rens_append, lc_rens, rens]
theorem pow_inj {a b : Nat} (h : 2 ^ a = 2 ^ b) : a = b := by
  rcases Nat.lt_trichotomy a b with h1 | h1 | h1
  · have := Nat.pow_lt_pow_right (a := 2) (by decide) h1; omega
  · exact h1
  · have := Nat.pow_lt_pow_right (a := 2) (by decide) h1; omega
def Fit (nG nH nL nR nU k : Nat) : Prop := nG = 2 ^ k ∧ k ≤ 10 ∧ nH = nG ∧ nL = k ∧ nR = k ∧ nU = k
end
section
attribute [local go_sem ↓] lc_len lc_take lc_drop lc_known lc_one lc_rens lc_cells lw_known lw_agg lw_asG
attribute [local go_sem] lt_nat lt_natl lt_lnat lt_ll
set_option maxRecDepth 100000
set_option maxHeartbeats 1000000
theorem cut_nil {h : Heap} {Q : V → Heap → Prop} (hQ : Q .nils h) : VCall Tryd.prog G 45 [.nils] h Q := by
  refine vcall_body Tryd.func45 nm45 code45 nt45 ?_
  refine run_driveS 80 ?_
  simp only [go_sem, v45, v45_0, v45_1]
  refine run_cond_f (by rfl) ?_
  refine run_driveS 80 ?_
  simp only [go_sem, v45_3]
  refine run_ret' Tryd.func45 res45 ?_
  simp only [go_sem, rr45]
  exact hQ
theorem cut_sl (i n m : Nat) (hn : n ≤ m) {h : Heap} {Q : V → Heap → Prop} (h1 : n ≤ 2100 → Q (.sl i 0 n (.exact m)) h) (h2 : 2100 < n → Q (.sl i 0 2100 (.exact m)) h) : VCall Tryd.prog G 45 [.sl i 0 n (.exact m)] h Q := by
  refine vcall_body Tryd.func45 nm45 code45 nt45 ?_
  refine run_driveS 80 ?_
  simp only [go_sem, v45, v45_0, v45_1]
  by_cases hb : 2100 < n
  · have hd : ((2100 : Int) < (n : Int)) = True := eq_true (by omega)
    have hm : ((2100 : Int) ≤ (m : Int)) = True := eq_true (by omega)
    refine run_cond_t (by simp only [go_sem, hd]) ?_
    refine run_driveS 80 ?_
    simp only [go_sem, v45_2, hm]
    refine run_ret' Tryd.func45 res45 ?_
    simp only [go_sem, rr45]
    have := h2 hb
    simpa using this
  · have hd : ((2100 : Int) < (n : Int)) = False := eq_false (by omega)
    refine run_cond_f (by simp only [go_sem, hd]) ?_
    refine run_driveS 80 ?_
    simp only [go_sem, v45_3]
    refine run_ret' Tryd.func45 res45 ?_
    simp only [go_sem, rr45]
    exact h1 (by omega)
theorem cut_sl' (i n m : Nat) (hn : n ≤ m) {h : Heap} {Q : V → Heap → Prop} (hQ : Q (.sl i 0 (min n 2100) (.exact m)) h) : VCall Tryd.prog G 45 [.sl i 0 n (.exact m)] h Q :=
  cut_sl i n m hn (fun h => by rwa [Nat.min_eq_left h] at hQ) (fun h => by rwa [Nat.min_eq_right (Nat.le_of_lt h)] at hQ)
inductive In (f : Nat → Nat) : Nat → V → Option Blk → Prop
  | nil : In f 0 .nils none
  | sl (n m : Nat) (h : n ≤ m) : In f n (.sl 0 0 n (.exact m)) (some ⟨.ro, scs n f⟩)
def scv (n i : Nat) (uv : V) : List V := [uv, .unk, .nils, .sl 1 0 (n + 1) (.exact (n + 1)), .int .i64 i] ++ List.replicate 28 .unk
def sch (b0 : Option Blk) (f : Nat → Nat) (n i : Nat) : Heap := [b0, some ⟨.rw, scs (n + 1) fun j => if j < i then f j else 0⟩]
theorem scalars_loop (f : Nat → Nat) (N m n : Nat) (hN : n ≤ N) (hn : n ≤ 2100) {Q : V → Heap → Prop} {K : List TI}
    (hK : Run Tryd.prog G 10 1 Q (K, ⟨scv n n (.sl 0 0 n (.exact m)), sch (some ⟨.ro, scs N f⟩) f n n⟩)) : ∀ k i, i + k = n → Run Tryd.prog G 10 1 Q (.l v10_8 :: .b 0 :: K, ⟨scv n i (.sl 0 0 n (.exact m)), sch (some ⟨.ro, scs N f⟩) f n i⟩)
  | 0, i, h => by
    obtain rfl : i = n := by omega
    have h0 : ((i : Int) < (i : Int)) = False := eq_false (by omega)
    unfold scv sch
    refine run_loop_eq v10_8.eq_1 ?_
    refine run_driveS 80 ?_
    simp only [go_sem, v10_4, h0]
    refine run_exit rfl ?_
    refine run_rename [0, 1] rfl (by simp) ?_ ?_ ?_ hK
    · unfold sch
      simp only [go_sem, hfit, lc_fit, scs_fit, fit, ren, gmap, lw_plain, true_or, or_true]
    · simp [uniq, sch, wrB]
    · unfold scv
      simp only [go_sem, hfit, lc_fit, scs_fit, fit, ren, gmap, lw_plain, true_or, or_true]
  | k + 1, i, h => by
    have ih := scalars_loop f N m n hN hn hK k (i + 1) (by omega)
    have h0 : ((i : Int) < (n : Int)) = True := eq_true (by omega)
    have h1 : ((i : Int) < ((n + 1 : Nat) : Int)) = True := eq_true (by omega)
    have hg := scs_get' N f (i := i) (by omega)
    have hin := scs_in (n + 1) (fun j => if j < i then f j else 0) (i := i) (by omega)
    have hset := scs_set (n + 1) (fun j => if j < i then f j else 0) (fun j => if j < i + 1 then f j else 0) (i := i) (v := f i) (by omega) (by rw [if_pos (by omega)]) (fun j _ hj => by by_cases h1 : j < i <;> simp [h1] <;> omega)
    have hw : IntKind.i64.wrap ((i : Int) + 1) = ((i + 1 : Nat) : Int) := by rw [wrap_i64 (by omega) (by omega)]; omega
    unfold scv sch
    refine run_loop_eq v10_8.eq_1 ?_
    refine run_driveS 80 ?_
    simp only [go_sem, v10_4, v10_6, v10_5, v10_7, h0, h1, hg, hin, hset, hw]
    refine run_rename [0, 1] rfl (by simp) ?_ ?_ ?_ ih
    · unfold sch
      simp only [go_sem, hfit, lc_fit, scs_fit, fit, ren, gmap, lw_plain, true_or, or_true]
    · simp [uniq, sch, wrB]
    · unfold scv
      simp only [go_sem, hfit, lc_fit, scs_fit, fit, ren, gmap, lw_plain, true_or, or_true]
theorem scalars (f : Nat → Nat) (N n : Nat) (uv : V) (b0 : Option Blk) (hi : In f N uv b0) (hn : n = min N 2100) (Q : V → Heap → Prop) (hQ : Q (.sl 1 0 n (.exact (n + 1))) [b0, some ⟨.rw, scs n f ++ lc 78⟩]) : VCall Tryd.prog G 10 [uv] [b0] Q := by
  have hend : (scs (n + 1) fun j => if j < n + 1 then (if j < n then f j else 78) else 0) = scs n f ++ lc 78 := by
    show (scs n fun j => if j < n + 1 then (if j < n then f j else 78) else 0) ++ lc (if n < n + 1 then (if n < n then f n else 78) else 0) = _
    rw [if_pos (by omega), if_neg (by omega)]
    congr 1
    exact scs_congr fun j hj => by rw [if_pos (by omega), if_pos hj]
  have hft : ∀ g, fit g (scs n f ++ lc 78) (scs n f ++ lc 78) := fun g => fit_same (by rw [rens_append, scs_rens, lc_rens])
  refine vcall_body Tryd.func10 nm10 code10 nt10 ?_
  cases hi with
  | nil =>
    obtain rfl : n = 0 := by omega
    refine run_driveS 80 ?_
    simp only [go_sem, v10, v10_0, v10_1]
    refine run_call' rfl ?_
    simp only [go_sem, calV]
    refine cut_nil ?_
    refine run_driveS 80 ?_
    simp only [go_sem, v10_2, v10_3, v10_9]
    refine run_loop_eq v10_8.eq_1 ?_
    refine run_driveS 80 ?_
    simp only [go_sem, v10_4]
    refine run_exit rfl ?_
    refine run_driveS 80 ?_
    simp only [go_sem, v10_10, v10_11]
    refine run_ret_drop Tryd.func10 res10 [0, 1] (.sl 1 0 0 (.exact (0 + 1))) _ rfl (by simp) ?_ ?_ ?_ hQ
    · simp only [go_sem, hfit, lc_fit, scs_fit, fit, ren, gmap, lw_plain, true_or, or_true, hft]
      exact hft _
    · simp [uniq, wrB]
    · simp only [go_sem, rr10, ren, gmap]
  | sl M m hm =>
    refine run_driveS 80 ?_
    simp only [go_sem, v10, v10_0, v10_1]
    refine run_call' rfl ?_
    simp only [go_sem, calV]
    refine cut_sl' 0 N m hm ?_
    rw [← hn]
    have hw : IntKind.i64.wrap ((n : Int) + 1) = ((n + 1 : Nat) : Int) := by rw [wrap_i64 (by omega) (by omega)]; omega
    have h2 : ((32 : Int) * ((n + 1 : Nat) : Int) ≤ 281474976710656) = True := eq_true (by omega)
    have h3 : (((n + 1 : Nat) : Int) ≤ 9223372036854775807) = True := eq_true (by omega)
    refine run_driveS 80 ?_
    simp only [go_sem, v10_2, v10_3, v10_9, hw, h2, h3, ↓scs_zero]
    refine run_rename [0, 1] rfl (by simp) ?_ ?_ ?_ (scalars_loop f N m n (by omega) (by omega) (K := [.c (.seq (.reg v10_10) (.seq (.reg v10_11) .ret))]) ?_ n 0 (by omega))
    · unfold sch
      rw [show (scs (n + 1) fun j => if j < 0 then f j else 0) = scs (n + 1) fun _ => 0 from scs_congr fun j _ => if_neg (by omega)]
      simp only [go_sem, hfit, lc_fit, scs_fit, fit, ren, gmap, lw_plain, true_or, or_true]
    · simp [uniq, sch, wrB]
    · unfold scv
      simp only [go_sem, hfit, lc_fit, scs_fit, fit, ren, gmap, lw_plain, true_or, or_true]
    · unfold scv sch
      have h1 : ((n : Int) < ((n + 1 : Nat) : Int)) = True := eq_true (by omega)
      have h4 : ((n : Int) ≤ ((n + 1 : Nat) : Int)) = True := eq_true (by omega)
      have hin := scs_in (n + 1) (fun j => if j < n then f j else 0) (i := n) (by omega)
      have hset := scs_set (n + 1) (fun j => if j < n then f j else 0) (fun j => if j < n + 1 then (if j < n then f j else 78) else 0) (i := n) (v := 78) (by omega) (by simp) (fun j _ hj => by by_cases h1 : j < n <;> simp [h1] <;> omega)
      have h78 : [V.int .u64 (nl 78), .int .u64 (nl 0), .int .u64 (nl 0), .int .u64 (nl 0)] = lc 78 := rfl
      refine run_driveS 80 ?_
      simp only [go_sem, v10_10, v10_11, h1, h4, h78, hin, hset, hend]
      refine run_ret_drop Tryd.func10 res10 [0, 1] (.sl 1 0 n (.exact (n + 1))) _ rfl (by simp) ?_ ?_ ?_ hQ
      · simp only [go_sem, hfit, lc_fit, scs_fit, fit, ren, gmap, lw_plain, true_or, or_true, hft]
      · simp [uniq, wrB]
      · simp only [go_sem, rr10, ren, gmap]
end
section
attribute [local go_sem ↓] lc_len lc_take lc_drop lc_known lc_one lc_rens lc_cells lw_known lw_agg lw_asG scs_known scs_one scs_len
attribute [local go_sem] lt_nat lt_natl lt_lnat lt_ll
set_option maxRecDepth 100000
set_option maxHeartbeats 1000000
def dv (b : Nat) (n : Nat) : V := if n = 0 then .nils else .sl b 0 n (.grow 4)
def db (g : Nat → Nat) (n : Nat) : Option Blk := if n = 0 then none else some ⟨.grow, scs n g⟩
theorem dv_pos {b n : Nat} (h : 0 < n) : dv b n = .sl b 0 n (.grow 4) := if_neg (by omega)
theorem db_pos {g : Nat → Nat} {n : Nat} (h : 0 < n) : db g n = some ⟨.grow, scs n g⟩ := if_neg (by omega)
theorem scs_snoc (n : Nat) (g : Nat → Nat) {v : Nat} (h : g n = v) : scs n g ++ lc v = scs (n + 1) g := by subst h; rfl
def dcv (n : Nat) (m : Nat) (i : Nat) : List V := [.sl 0 0 n (.exact m), .unk, .nils, dv 1 i, .int .i64 i] ++ List.replicate 17 .unk
theorem doc_loop (f : Nat → Nat) (hf : ∀ j, f j < 115792089237316195423570985008687907853269984665640564039457584007913129639936) (N m n : Nat) (hN : n ≤ N) (hn : n ≤ 2100) {Q : V → Heap → Prop} {K : List TI}
    (hK : Run Tryd.prog G 11 1 Q (K, ⟨dcv n m n, [some ⟨.ro, scs N f⟩, db (fun j => f j % ell) n]⟩)) : ∀ k i, i + k = n → Run Tryd.prog G 11 1 Q (.l v11_8 :: .b 0 :: K, ⟨dcv n m i, [some ⟨.ro, scs N f⟩, db (fun j => f j % ell) i]⟩)
  | 0, i, h => by
    obtain rfl : i = n := by omega
    have h0 : ((i : Int) < (i : Int)) = False := eq_false (by omega)
    unfold dcv
    by_cases hi : i = 0
    · subst hi
      rw [show dv 1 0 = .nils from rfl, show db (fun j => f j % ell) 0 = none from rfl]
      refine run_loop_eq v11_8.eq_1 ?_
      refine run_driveS 80 ?_
      simp only [go_sem, v11_4]
      refine run_exit rfl ?_
      refine run_rename [0, 1] rfl (by simp) ?_ ?_ ?_ hK
      · rw [show db (fun j => f j % ell) 0 = none from rfl]
        simp only [go_sem, hfit, lc_fit, scs_fit, fit, ren, gmap, lw_plain, true_or, or_true]
      · simp [uniq, db, wrB]
      · unfold dcv
        rw [show dv 1 0 = .nils from rfl]
        simp only [go_sem, hfit, lc_fit, scs_fit, fit, ren, gmap, lw_plain, true_or, or_true]
    · have hi : 0 < i := by omega
      rw [dv_pos hi, db_pos hi]
      refine run_loop_eq v11_8.eq_1 ?_
      refine run_driveS 80 ?_
      simp only [go_sem, v11_4, h0]
      refine run_exit rfl ?_
      refine run_rename [0, 1] rfl (by simp) ?_ ?_ ?_ hK
      · rw [db_pos hi]
        simp only [go_sem, hfit, lc_fit, scs_fit, fit, ren, gmap, lw_plain, true_or, or_true]
      · simp [uniq, wrB]
      · unfold dcv
        rw [dv_pos hi]
        simp only [go_sem, hfit, lc_fit, scs_fit, fit, ren, gmap, lw_plain, true_or, or_true]
  | k + 1, i, h => by
    have ih := doc_loop f hf N m n hN hn hK k (i + 1) (by omega)
    have h0 : ((i : Int) < (n : Int)) = True := eq_true (by omega)
    have hg := scs_get' N f (i := i) (by omega)
    have hw : IntKind.i64.wrap ((i : Int) + 1) = ((i + 1 : Nat) : Int) := by rw [wrap_i64 (by omega) (by omega)]; omega
    unfold dcv
    by_cases hi : i = 0
    · subst hi
      have h0' : ((0 : Int) < (n : Int)) = True := eq_true (by omega)
      rw [Nat.zero_mul, List.drop_zero] at hg
      rw [show dv 1 0 = .nils from rfl, show db (fun j => f j % ell) 0 = none from rfl]
      refine run_loop_eq v11_8.eq_1 ?_
      refine run_driveS 80 ?_
      simp only [go_sem, v11_4, v11_6, v11_5, h0', hg]
      refine run_call' rfl ?_
      simp only [go_sem, calV]
      refine ref_least _ (hf 0) ?_
      refine run_driveS 80 ?_
      simp only [go_sem, v11_7]
      refine run_rename [0, 3] rfl (by simp) ?_ ?_ ?_ ih
      · rw [db_pos (by omega)]
        rw [show scs (0 + 1) (fun j => f j % ell) = lc (f 0 % ell) from rfl]
        simp only [go_sem, hfit, lc_fit, scs_fit, fit, ren, gmap, lw_plain, true_or, or_true]
      · simp [uniq, db, wrB]
      · unfold dcv
        rw [dv_pos (by omega)]
        simp only [go_sem, hfit, lc_fit, scs_fit, fit, ren, gmap, lw_plain, true_or, or_true]
    · have hi : 0 < i := by omega
      rw [dv_pos hi, db_pos hi]
      have a1 : ((i + 1) * 32 ≤ 140737488355328) = True := eq_true (by omega)
      have a2 : (i + 1 ≤ 9223372036854775807) = True := eq_true (by omega)
      have a3 := scs_snoc i (fun j => f j % ell) (v := f i % ell) rfl
      refine run_loop_eq v11_8.eq_1 ?_
      refine run_driveS 80 ?_
      simp only [go_sem, v11_4, v11_6, v11_5, h0, hg]
      refine run_call' rfl ?_
      simp only [go_sem, calV]
      refine ref_least _ (hf i) ?_
      refine run_driveS 80 ?_
      simp only [go_sem, v11_7, a1, a2, a3, hw]
      refine run_rename [0, 3] rfl (by simp) ?_ ?_ ?_ ih
      · rw [db_pos (by omega)]
        simp only [go_sem, hfit, lc_fit, scs_fit, fit, ren, gmap, lw_plain, true_or, or_true]
      · simp [uniq, db, wrB]
      · unfold dcv
        rw [dv_pos (by omega)]
        simp only [go_sem, hfit, lc_fit, scs_fit, fit, ren, gmap, lw_plain, true_or, or_true]
theorem doc_scalars (f : Nat → Nat) (hf : ∀ j, f j < 115792089237316195423570985008687907853269984665640564039457584007913129639936) (N n : Nat) (uv : V) (b0 : Option Blk) (hi : In f N uv b0) (hn : n = min N 2100) (Q : V → Heap → Prop) (hQ : Q (dv 1 n) [b0, db (fun j => f j % ell) n]) : VCall Tryd.prog G 11 [uv] [b0] Q := by
  refine vcall_body Tryd.func11 nm11 code11 nt11 ?_
  cases hi with
  | nil =>
    obtain rfl : n = 0 := by omega
    refine run_driveS 80 ?_
    simp only [go_sem, v11, v11_0, v11_1]
    refine run_call' rfl ?_
    simp only [go_sem, calV]
    refine cut_nil ?_
    refine run_driveS 80 ?_
    simp only [go_sem, v11_2, v11_3, v11_9]
    refine run_loop_eq v11_8.eq_1 ?_
    refine run_driveS 80 ?_
    simp only [go_sem, v11_4]
    refine run_exit rfl ?_
    refine run_driveS 80 ?_
    simp only [go_sem, v11_10]
    refine run_ret_drop Tryd.func11 res11 [0, 1] .nils _ rfl (by simp) ?_ ?_ ?_ hQ
    · rw [show db (fun j => f j % ell) 0 = none from rfl]
      simp only [go_sem, hfit, lc_fit, scs_fit, fit, ren, gmap, lw_plain, true_or, or_true]
    · simp [uniq, db, wrB]
    · simp only [go_sem, rr11, ren, gmap]
  | sl M m hm =>
    refine run_driveS 80 ?_
    simp only [go_sem, v11, v11_0, v11_1]
    refine run_call' rfl ?_
    simp only [go_sem, calV]
    refine cut_sl' 0 N m hm ?_
    rw [← hn]
    refine run_driveS 80 ?_
    simp only [go_sem, v11_2, v11_3, v11_9]
    refine run_rename [0, 1] rfl (by simp) ?_ ?_ ?_ (doc_loop f hf N m n (by omega) (by omega) (K := [.c (.seq (.reg v11_10) .ret)]) ?_ n 0 (by omega))
    · rw [show db (fun j => f j % ell) 0 = none from rfl]
      simp only [go_sem, hfit, lc_fit, scs_fit, fit, ren, gmap, lw_plain, true_or, or_true]
    · simp [uniq, db, wrB]
    · unfold dcv
      rw [show dv 1 0 = .nils from rfl]
      simp only [go_sem, hfit, lc_fit, scs_fit, fit, ren, gmap, lw_plain, true_or, or_true]
    · unfold dcv
      by_cases h0 : n = 0
      · rw [h0] at hQ ⊢
        rw [show db (fun j => f j % ell) 0 = none from rfl, show dv 1 0 = .nils from rfl] at hQ ⊢
        refine run_driveS 80 ?_
        simp only [go_sem, v11_10]
        refine run_ret_drop Tryd.func11 res11 [0, 1] .nils _ rfl (by simp) ?_ ?_ ?_ hQ
        · simp only [go_sem, hfit, lc_fit, scs_fit, fit, ren, gmap, lw_plain, true_or, or_true]
        · simp [uniq, wrB]
        · simp only [go_sem, rr11, ren, gmap]
      · rw [db_pos (by omega), dv_pos (by omega)] at hQ ⊢
        refine run_driveS 80 ?_
        simp only [go_sem, v11_10]
        refine run_ret_drop Tryd.func11 res11 [0, 1] (.sl 1 0 n (.grow 4)) _ rfl (by simp) ?_ ?_ ?_ hQ
        · simp only [go_sem, hfit, lc_fit, scs_fit, fit, ren, gmap, lw_plain, true_or, or_true]
        · simp [uniq, wrB]
        · simp only [go_sem, rr11, ren, gmap]
end
section
attribute [local go_sem ↓] lc_len lc_take lc_drop lc_known lc_one lc_rens lc_cells lw_known lw_agg lw_asG scs_known scs_one scs_len
attribute [local go_sem] lt_nat lt_natl lt_lnat lt_ll bool_tf bool_ft
attribute [local go_sem ↓] ecs_len ecs_take ecs_drop ecs_known ecs_one ecs_rens ecs_fit ecs_cells ew_known ew_agg ew_asG ecs_kind ecs_k ecs_l
set_option maxRecDepth 100000
set_option maxHeartbeats 1000000
theorem ecs_take_add (a k : Nat) (l : List V) : (ecs a ++ l).take (k + 26) = ecs a ++ l.take k := rfl
theorem ecs_drop_add (a k : Nat) (l : List V) : (ecs a ++ l).drop (k + 26) = l.drop k := rfl
/- Elements, one behind the other; a slice of them that was grown by append; its block, read only. -/
theorem ecs26 (f : Nat → Nat) (j : Nat) : (ecs (f j)).length = 26 := rfl
def ers (n : Nat) (f : Nat → Nat) : List V := row n fun j => ecs (f j)
theorem ers_len (n : Nat) (f : Nat → Nat) : (ers n f).length = n * 26 := row_len (ecs26 f) n
theorem ers_get (n : Nat) (f : Nat → Nat) {i : Nat} (h : i < n) : ((ers n f).drop (i * 26)).take 26 = ecs (f i) := row_get' (ecs26 f) h
theorem ers_known (n : Nat) (f : Nat → Nat) : (ers n f).all V.known = true := row_all (fun _ => rfl) n
theorem ers_one (n : Nat) (f : Nat → Nat) : (ers n f).all V.one = true := row_all (fun _ => rfl) n
theorem ers_rens (n : Nat) (f g : Nat → Nat) : rens g (ers n f) = ers n f := row_rens (fun j => ecs_rens _ g) n
theorem ers_fit (n : Nat) (f g : Nat → Nat) : fit g (ers n f) (ers n f) := fit_same (ers_rens n f g)
theorem ers_snoc (n : Nat) (g : Nat → Nat) {v : Nat} (h : g n = v) : ers n g ++ ecs v = ers (n + 1) g := by subst h; rfl
def de (b n : Nat) : V := if n = 0 then .nils else .sl b 0 n (.grow 26)
def eb (f : Nat → Nat) (n : Nat) : Option Blk := if n = 0 then none else some ⟨.ro, ers n f⟩
def ebg (f : Nat → Nat) (n : Nat) : Option Blk := if n = 0 then none else some ⟨.grow, ers n f⟩
theorem de_pos {b n : Nat} (h : 0 < n) : de b n = .sl b 0 n (.grow 26) := if_neg (by omega)
theorem eb_pos {f : Nat → Nat} {n : Nat} (h : 0 < n) : eb f n = some ⟨.ro, ers n f⟩ := if_neg (by omega)
theorem ebg_pos {f : Nat → Nat} {n : Nat} (h : 0 < n) : ebg f n = some ⟨.grow, ers n f⟩ := if_neg (by omega)
theorem lenO_de (b n : Nat) : lenO (de b n) = some n := by
  unfold de
  by_cases h : n = 0
  · rw [if_pos h, h]; rfl
  · rw [if_neg h]; rfl
theorem lenO_dv (b n : Nat) : lenO (dv b n) = some n := by
  unfold dv
  by_cases h : n = 0
  · rw [if_pos h, h]; rfl
  · rw [if_neg h]; rfl
theorem de_known (b n : Nat) : (de b n).known = true := by unfold de; split <;> rfl
theorem dv_known (b n : Nat) : (dv b n).known = true := by unfold dv; split <;> rfl
theorem de_one (b n : Nat) : (de b n).one = true := by unfold de; split <;> rfl
theorem dv_one (b n : Nat) : (dv b n).one = true := by unfold dv; split <;> rfl
theorem de_ren (b n : Nat) (g : Nat → Nat) : ren g (de b n) = de (g b) n := by unfold de; split <;> rfl
theorem dv_ren (b n : Nat) (g : Nat → Nat) : ren g (dv b n) = dv (g b) n := by unfold dv; split <;> rfl
def rob (g : Nat → Nat) (n : Nat) : Option Blk := if n = 0 then none else some ⟨.ro, scs n g⟩
theorem rob_pos {g : Nat → Nat} {n : Nat} (h : 0 < n) : rob g n = some ⟨.ro, scs n g⟩ := if_neg (by omega)
theorem rob_cases (f : Nat → Nat) (n : Nat) : rob f n = none ∨ rob f n = some ⟨.ro, scs n f⟩ := by unfold rob; split <;> simp
attribute [local go_sem ↓] ecs_take_add ecs_drop_add lc_take_add lc_drop_add lenO_de lenO_dv de_known dv_known de_one dv_one de_ren dv_ren
def stE (P Q : Nat) (g h : V) : V := .agg (ecs P ++ (ecs Q ++ [g, h]))
def arE (l r : V) (a b : Nat) : V := .agg (l :: r :: (lc a ++ lc b))
theorem stE_ren (P Q : Nat) (x y : V) (g : Nat → Nat) : ren g (stE P Q x y) = stE P Q (ren g x) (ren g y) := by simp only [stE, ren, rens_append, ecs_rens, rens]
theorem arE_ren (x y : V) (a b : Nat) (g : Nat → Nat) : ren g (arE x y a b) = arE (ren g x) (ren g y) a b := by simp only [arE, ren, rens_append, lc_rens, rens]
def fiv (nU : Nat) (k : Nat) (j : Nat) : List V := [.unk, .unk, dv 0 nU, .unk, .unk, .unk, .int .i64 0, .int .i64 k, .int .i64 j] ++ List.replicate 45 .unk
theorem fits_loop (us : Nat → Nat) (hus : ∀ j, us j < 115792089237316195423570985008687907853269984665640564039457584007913129639936) (k : Nat) (hk : k ≤ 10) {Q : V → Heap → Prop} (hQ0 : (∀ j, j < k → us j ≠ 0) → Q (.int .i64 0) [rob us k, none, none, none, none]) (hQ4 : (∃ j, j < k ∧ us j = 0) → Q (.int .i64 4) [rob us k, none, none, none, none]) : ∀ m j, j + m = k → (∀ i, i < j → us i ≠ 0) →
    Run Tryd.prog G 12 5 Q ([.l v12_10, .b 0, .c (.seq (.reg v12_12) .ret)], ⟨fiv k k j, [rob us k, none, none, none, none]⟩)
  | 0, j, h, hz => by
    obtain rfl : j = k := by omega
    have h0 : ((j : Int) < (j : Int)) = False := eq_false (by omega)
    unfold fiv
    refine run_loop_eq v12_10.eq_1 ?_
    refine run_driveS 80 ?_
    simp only [go_sem, v12_5, h0]
    refine run_exit rfl ?_
    refine run_driveS 80 ?_
    simp only [go_sem, v12_12]
    refine run_ret_drop Tryd.func12 res12 [0, 1, 2, 3, 4] (.int .i64 0) _ rfl (by simp) ?_ ?_ ?_ (hQ0 hz)
    · rcases rob_cases us j with e | e <;> rw [e]
      · simp only [go_sem, hfit, lc_fit, scs_fit, fit, ren, gmap, lw_plain, true_or, or_true]
      · simp only [go_sem, hfit, lc_fit, scs_fit, fit, ren, gmap, lw_plain, true_or, or_true]
    · rcases rob_cases us j with e | e <;> rw [e] <;> simp [uniq, wrB]
    · simp only [go_sem, rr12, ren]
  | m + 1, j, h, hz => by
    have hj := hus j
    have ih := fits_loop us hus k hk hQ0 hQ4 m (j + 1) (by omega)
    have h0 : ((j : Int) < (k : Int)) = True := eq_true (by omega)
    have hg := scs_get' k us (i := j) (by omega)
    have hw : IntKind.i64.wrap ((j : Int) + 1) = ((j + 1 : Nat) : Int) := by rw [wrap_i64 (by omega) (by omega)]; omega
    unfold fiv at ih ⊢
    rw [rob_pos (by omega), dv_pos (by omega)] at *
    refine run_loop_eq v12_10.eq_1 ?_
    refine run_driveS 80 ?_
    simp only [go_sem, v12_5, v12_8, v12_6, h0, hg]
    refine run_call' rfl ?_
    simp only [go_sem, calV]
    refine ref_zero (us j) hj ?_
    refine run_driveS 80 ?_
    simp only [go_sem]
    by_cases hz' : us j = 0
    · refine run_cond_t (by simp only [go_sem, decide_eq_true hz']) ?_
      refine run_driveS 80 ?_
      simp only [go_sem, v12_7]
      refine run_ret_drop Tryd.func12 res12 [0, 1, 2, 3, 4] (.int .i64 4) _ rfl (by simp) ?_ ?_ ?_ (hQ4 ⟨j, by omega, hz'⟩)
      · simp only [go_sem, hfit, lc_fit, scs_fit, fit, ren, gmap, lw_plain, true_or, or_true]
      · simp [uniq, wrB]
      · simp only [go_sem, rr12, ren]
    · refine run_cond_f (by simp only [go_sem, decide_eq_false hz']) ?_
      refine run_driveS 80 ?_
      simp only [go_sem, v12_9, hw]
      refine run_rename [0, 1, 2, 3, 4] rfl (by simp) ?_ ?_ ?_ (ih (fun i hi => by
        by_cases e : i = j
        · subst e; exact hz'
        · exact hz i (by omega)))
      · simp only [go_sem, hfit, lc_fit, scs_fit, fit, ren, gmap, lw_plain, true_or, or_true]
      · simp [uniq, wrB]
      · simp only [go_sem, hfit, lc_fit, scs_fit, fit, ren, gmap, lw_plain, true_or, or_true]
theorem fits_ref (P Q' a b nG nH nL nR nU : Nat) (us : Nat → Nat) (hus : ∀ j, us j < 115792089237316195423570985008687907853269984665640564039457584007913129639936) (Q : V → Heap → Prop)
    (hQ2 : (∀ k, ¬ Fit nG nH nL nR nU k) → Q (.int .i64 2) [rob us nU, none, none, none, none])
    (hQ4 : ∀ k, Fit nG nH nL nR nU k → (∃ j, j < k ∧ us j = 0) → Q (.int .i64 4) [rob us nU, none, none, none, none])
    (hQ0 : ∀ k, Fit nG nH nL nR nU k → (∀ j, j < k → us j ≠ 0) → Q (.int .i64 0) [rob us nU, none, none, none, none]) :
    VCall Tryd.prog G 12 [stE P Q' (de 1 nG) (de 2 nH), arE (de 3 nL) (de 4 nR) a b, dv 0 nU] [rob us nU, none, none, none, none] Q := by
  have fin2 : ∀ (st : St) (hp : List (Option Blk)), (∀ k, ¬ Fit nG nH nL nR nU k) → st.heap = rob us nU :: none :: none :: none :: none :: hp → st.tmps[6]? = some (.int .i64 2) → Run Tryd.prog G 12 5 Q ([.c .ret, .c (.seq (.seq (.reg v12_4) (.block 0 v12_11)) (.seq (.reg v12_12) .ret))], st) := by
    intro st hp hf he ht
    refine run_ret_drop Tryd.func12 res12 [0, 1, 2, 3, 4] (.int .i64 2) _ rfl (by simp) ?_ ?_ ?_ (hQ2 hf)
    · rw [he]
      rcases rob_cases us nU with e | e <;> rw [e]
      · simp only [go_sem, hfit, lc_fit, scs_fit, fit, ren, gmap, lw_plain, true_or, or_true]
      · simp only [go_sem, hfit, lc_fit, scs_fit, fit, ren, gmap, lw_plain, true_or, or_true]
    · rcases rob_cases us nU with e | e <;> rw [e] <;> simp [uniq, wrB]
    · have ht' : st.tmps.getD 6 .unk = .int .i64 2 := by rw [List.getD_eq_getElem?_getD, ht]; rfl
      simp only [go_sem, rr12, ren, ht']
  refine vcall_body Tryd.func12 nm12 code12 nt12 ?_
  unfold stE arE
  refine run_driveS 80 ?_
  simp only [go_sem, v12, v12_0, v12_1]
  refine run_call' rfl ?_
  simp only [go_sem, calV]
  refine log_ nG (fun k hk e => ?_) (fun hz => ?_)
  · have uk : ∀ k', nG = 2 ^ k' → k' = k := fun k' e' => pow_inj (e'.symm.trans e)
    have hn : ((k : Int) < 0) = False := eq_false (by omega)
    by_cases h1 : nG = nH
    case neg =>
      have d0 : decide (nG = nH) = false := decide_eq_false h1
      refine run_driveS 80 ?_
      simp only [go_sem, v12_2, eq_int, hn, d0]
      refine run_cond_t (by rfl) ?_
      refine run_driveS 80 ?_
      simp only [go_sem, v12_3]
      exact fin2 _ _ (fun k' f => h1 (by obtain ⟨f1, f2, f3, f4, f5, f6⟩ := f; have := uk k' f1; omega)) rfl rfl
    have d0 : decide (nG = nH) = true := decide_eq_true h1
    by_cases h2 : nL = k
    case neg =>
      have d1 : decide (nL = k) = false := decide_eq_false h2
      refine run_driveS 80 ?_
      simp only [go_sem, v12_2, eq_int, hn, d0, d1]
      refine run_cond_t (by rfl) ?_
      refine run_driveS 80 ?_
      simp only [go_sem, v12_3]
      exact fin2 _ _ (fun k' f => h2 (by obtain ⟨f1, f2, f3, f4, f5, f6⟩ := f; have := uk k' f1; omega)) rfl rfl
    have d1 : decide (nL = k) = true := decide_eq_true h2
    by_cases h3 : nR = k
    case neg =>
      have d2 : decide (nR = k) = false := decide_eq_false h3
      refine run_driveS 80 ?_
      simp only [go_sem, v12_2, eq_int, hn, d0, d1, d2]
      refine run_cond_t (by rfl) ?_
      refine run_driveS 80 ?_
      simp only [go_sem, v12_3]
      exact fin2 _ _ (fun k' f => h3 (by obtain ⟨f1, f2, f3, f4, f5, f6⟩ := f; have := uk k' f1; omega)) rfl rfl
    have d2 : decide (nR = k) = true := decide_eq_true h3
    by_cases h4 : nU = k
    case neg =>
      have d3 : decide (nU = k) = false := decide_eq_false h4
      refine run_driveS 80 ?_
      simp only [go_sem, v12_2, eq_int, hn, d0, d1, d2, d3]
      refine run_cond_t (by rfl) ?_
      refine run_driveS 80 ?_
      simp only [go_sem, v12_3]
      exact fin2 _ _ (fun k' f => h4 (by obtain ⟨f1, f2, f3, f4, f5, f6⟩ := f; have := uk k' f1; omega)) rfl rfl
    have d3 : decide (nU = k) = true := decide_eq_true h4
    refine run_driveS 80 ?_
    simp only [go_sem, v12_2, eq_int, hn, d0, d1, d2, d3]
    refine run_cond_f (by rfl) ?_
    refine run_driveS 80 ?_
    simp only [go_sem, v12_4, v12_11]
    have hf : Fit nG nH nL nR nU k := ⟨e, hk, h1.symm, h2, h3, h4⟩
    have q0 := hQ0 k hf
    have q4 := hQ4 k hf
    rw [h4] at q0 q4 ⊢
    refine run_rename [0, 1, 2, 3, 4] rfl (by simp) ?_ ?_ ?_ (fits_loop us hus k hk q0 q4 k 0 (by omega) (fun j hj => by omega))
    · rcases rob_cases us k with e | e <;> rw [e]
      · simp only [go_sem, hfit, lc_fit, scs_fit, fit, ren, gmap, lw_plain, true_or, or_true]
      · simp only [go_sem, hfit, lc_fit, scs_fit, fit, ren, gmap, lw_plain, true_or, or_true]
    · rcases rob_cases us k with e | e <;> rw [e] <;> simp [uniq, wrB]
    · unfold fiv
      simp only [go_sem, hfit, lc_fit, scs_fit, fit, ren, gmap, lw_plain, true_or, or_true]
  · by_cases h1 : nG = nH
    · have d0 : decide (nG = nH) = true := decide_eq_true h1
      refine run_driveS 80 ?_
      simp only [go_sem, v12_2, eq_int, d0]
      refine run_cond_t (by rfl) ?_
      refine run_driveS 80 ?_
      simp only [go_sem, v12_3]
      exact fin2 _ _ (fun k' f => hz k' f.2.1 f.1) rfl rfl
    · have d0 : decide (nG = nH) = false := decide_eq_false h1
      refine run_driveS 80 ?_
      simp only [go_sem, v12_2, eq_int, d0]
      refine run_cond_t (by rfl) ?_
      refine run_driveS 80 ?_
      simp only [go_sem, v12_3]
      exact fin2 _ _ (fun k' f => hz k' f.2.1 f.1) rfl rfl
end
section
attribute [local go_sem ↓] lc_len lc_take lc_drop lc_known lc_one lc_rens lc_cells lw_known lw_agg lw_asG scs_known scs_one scs_len
attribute [local go_sem] lt_nat lt_natl lt_lnat lt_ll bool_tf bool_ft
set_option maxRecDepth 100000
set_option maxHeartbeats 1000000
theorem run_for {P : Program} {f : FuncId} {n : Nat} {md : Md} {Q : V → Heap → Prop} {k : List TI} (S : Nat → St) (N : Nat) (step : ∀ i, i < N → RunM P G f n md Q (k, S (i + 1)) → RunM P G f n md Q (k, S i)) (last : RunM P G f n md Q (k, S N)) : RunM P G f n md Q (k, S 0) := by
  have : ∀ j i, i + j = N → RunM P G f n md Q (k, S i) := by
    intro j
    induction j with
    | zero =>
      intro i h
      obtain rfl : i = N := (by omega)
      exact last
    | succ j ih => intro i h; exact step i (by omega) (ih (i + 1) (by omega))
  exact this N 0 (by omega)
theorem line_times (hG : G 0 = tbl) (A K : Nat) (hA : A < 115792089237316195423570985008687907853269984665640564039457584007913129639936) (hK : K < 115792089237316195423570985008687907853269984665640564039457584007913129639936) {h : Heap} {R : V → Heap → Prop} (hQ : R (lw (A * K % ell)) h) : VCall Tryd.prog G 182 [lw A, lw K] h R := by
  refine vcall_plain (Q := fun v => v = lw (A * K % ell)) ?_ (fun g => by simp only [rens, lw_plain, ew_plain, ren]) (fun v g hv => by subst hv; exact lw_plain _ g) (fun v hv => by subst hv; exact hQ)
  refine vcall_body Tryd.func182 nm182 code182 nt182 ?_
  refine run_driveS 80 ?_
  simp only [go_sem, v182, v182_0, v182_1]
  refine run_call' rfl ?_
  simp only [go_sem, calV]
  refine mul' hG _ _ hA hK ?_
  refine run_driveS 80 ?_
  simp only [go_sem]
  refine run_ret_drop Tryd.func182 res182 [] (lw (A * K % ell)) [] rfl (by simp) trivial (by simp [uniq]) ?_ ⟨rfl, rfl⟩
  simp only [go_sem, rr182, lw_plain, ew_plain, ren]
theorem line_add (hG : G 0 = tbl) (A B : Nat) (hA : A < 115792089237316195423570985008687907853269984665640564039457584007913129639936) (hB : B < 115792089237316195423570985008687907853269984665640564039457584007913129639936) {h : Heap} {R : V → Heap → Prop} (hQ : R (lw ((A + B) % ell)) h) : VCall Tryd.prog G 180 [lw A, lw B] h R := by
  refine vcall_plain (Q := fun v => v = lw ((A + B) % ell)) ?_ (fun g => by simp only [rens, lw_plain, ew_plain, ren]) (fun v g hv => by subst hv; exact lw_plain _ g) (fun v hv => by subst hv; exact hQ)
  refine vcall_body Tryd.func180 nm180 code180 nt180 ?_
  refine run_driveS 80 ?_
  simp only [go_sem, v180, v180_0, v180_1]
  refine run_call' rfl ?_
  simp only [go_sem, calV]
  refine add_ hG _ _ hA hB ?_
  refine run_driveS 80 ?_
  simp only [go_sem]
  refine run_ret_drop Tryd.func180 res180 [] (lw ((A + B) % ell)) [] rfl (by simp) trivial (by simp [uniq]) ?_ ⟨rfl, rfl⟩
  simp only [go_sem, rr180, lw_plain, ew_plain, ren]
end
end Go.Vs.Tryd
namespace Go.Vs.Tryd
open Go.Proofs
variable {G : Nat → List V}
set_option linter.unusedSimpArgs false
attribute [local go_sem] lenO_nils lenO_sl sliceAtV Int.sub_zero List.length_append List.all_append ge_iff_le gt_iff_lt Int.natCast_nonneg Int.toNat_natCast Nat.mul_one b_and_ll b_shr_ll b_mul_ll b_add_ll b_or_ll b_shl_ll pick_ll pick_lc pick_bb driveS stopV Option.isSome_some Option.isSome_none Kind.m Kind.w Kind.g look_ro look_rw look_grow drive stepV exo expo evs fillV isNil nilKind eqV eqL optA optM sliceAtV ev kn ldc stc splice appV srcV lenV setd wantV exitV rvs rv one List.length_cons List.length_nil List.cons_append List.nil_append List.append_nil List.replicate List.getD_cons_zero List.getD_cons_succ List.set_cons_zero List.set_cons_succ List.getElem?_cons_zero List.getElem?_cons_succ List.getElem?_nil List.take_succ_cons List.take_zero List.take_nil List.drop_succ_cons List.drop_zero List.drop_nil List.all_cons List.all_nil List.any_cons List.any_nil Bool.and_true Bool.true_and Bool.and_self Option.map_some Option.map_none Option.bind_some Option.some.injEq Nat.add_zero Nat.zero_add Int.toNat_zero Int.toNat_one Int.zero_add Int.add_zero if_true if_false ite_true ite_false and_true true_and and_self ne_eq not_false_eq_true not_true_eq_false decide_true decide_false Bool.false_eq_true Bool.not_true Bool.not_false beq_self_eq_true BEq.rfl Bool.not_eq_true Nat.le_refl Int.le_refl Nat.zero_le List.foldl List.map_cons List.map_nil Prod.mk.injEq Int.cast_ofNat_Int Int.zero_le_ofNat b_add_cc b_add_cl b_add_lc b_mul_cc b_mul_cl b_mul_lc b_sub_cc b_sub_cl b_sub_lc b_and_cc b_and_cl b_and_lc b_or_cc b_or_cl b_or_lc b_xor_cc b_xor_cl b_xor_lc b_andNot_cc b_andNot_cl b_andNot_lc b_shr_cc b_shr_cl b_shr_lc b_shl_cc b_shl_cl b_shl_lc b_lss b_leq b_gtr b_geq b_add_i b_sub_i b_mul_i beq_cc beq_cl beq_lc beq_ll b_quo_i b_rem_i neg_u64 wrap_i64 driveD stepD idsAt idOf maskH_nil restore_nil restore_mask List.filterMap_nil List.filterMap_cons VOp.looks VOp.makes exA cells_agg cells_int cells_bool cells_str cells_nilp cells_ptr cells_glob cells_nils cells_sl cells_nilf cells_fn cells_nili cells_ifc known_agg known_tup known_int known_bool known_str known_nilp known_ptr known_glob known_nils known_sl known_nilf known_fn known_nili known_ifc known_unk one_agg one_tup one_int one_bool one_str one_nilp one_ptr one_glob one_nils one_sl one_nilf one_fn one_nili one_ifc asK_int asN_int asB_bool asS_str asG_agg asT_tup true_or or_true false_or or_false
attribute [local go_sem_proc] Nat.reduceAdd Nat.reduceSub Nat.reduceLeDiff Nat.reduceMul Nat.reduceLT Nat.reduceEqDiff Int.reduceLT Int.reduceLE Int.reduceAdd Int.reduceSub Int.reduceMul Int.reduceToNat reduceIte reduceCtorEq Nat.reduceBEq
attribute [local go_sem ↓] lc_len lc_take lc_drop lc_known lc_one lc_rens lc_cells lw_known lw_agg lw_asG scs_known scs_one scs_len
attribute [local go_sem] lt_nat lt_natl lt_lnat lt_ll bool_tf bool_ft
set_option maxRecDepth 100000
set_option maxHeartbeats 1000000
theorem m_times : methV Tryd.prog 29 "Times" = some 182 := by kernel_rfl
theorem m_add : methV Tryd.prog 29 "Add" = some 180 := by kernel_rfl
theorem halves_ (p m : Nat) (hm : 0 < m) (hm2 : m < 1000000) (c : Cap) (hc : c = .grow 4 ∨ ∃ k, c = .exact k ∧ 2 * m ≤ k) (f : Nat → Nat) {h : Heap} (hp : h[p]? = some (some ⟨.ro, scs (2 * m) f⟩)) {R : V → Heap → Prop}
    (hQ : R (.tup [.sl p 0 m (.exact m), .sl p (m * 4) m (.exact m)]) h) : VCall Tryd.prog G 109 [.sl p 0 (2 * m) c] h R := by
  have hd : Int.tdiv ((2 * m : Nat) : Int) 2 = (m : Int) := by
    rw [show (2 : Int) = ((2 : Nat) : Int) from rfl, ← Int.ofNat_tdiv]
    congr 1
    omega
  have hwm : IntKind.i64.wrap (m : Int) = (m : Int) := wrap_i64 (by omega) (by omega)
  have h0 : ((m : Int) ≤ ((2 * m : Nat) : Int)) = True := eq_true (by omega)
  have h1 : (m = 0) = False := eq_false (by omega)
  have h1' : ((m : Int) = 0) = False := eq_false (by omega)
  have h2 : (((2 * m : Nat) : Int) = (m : Int)) = False := eq_false (by omega)
  have h3 : (2 * m * 4 ≤ 2 * m * 4) = True := eq_true (by omega)
  have h4 : (((2 * m : Nat) : Int) - (m : Int)) = (m : Int) := by omega
  have h5 : ((m : Int) ≤ (m : Int)) = True := eq_true (by omega)
  have h6 : (((2 * m : Nat) : Int) ≤ ((2 * m : Nat) : Int)) = True := eq_true (by omega)
  refine vcall_body Tryd.func109 nm109 code109 nt109 ?_
  rcases hc with rfl | ⟨k, rfl, hk⟩
  · refine run_driveS 80 ?_
    simp only [go_sem, v109, v109_0, v109_1, hd, hwm]
    refine run_drw (by kernel_rfl) ?_
    refine drun_drive 40 (p := (_, _)) ?_
    simp only [go_sem, v109_2, hp, hd, hwm, h0, h1, h1', h2, h3, h4, h5, h6]
    refine drun_end ?_
    refine run_driveS 80 ?_
    simp only [go_sem]
    refine run_ret' Tryd.func109 res109 ?_
    simp only [go_sem, rr109]
    exact hQ
  · have h7 : ((m : Int) ≤ (k : Int)) = True := eq_true (by omega)
    have h8 : (((2 * m : Nat) : Int) ≤ (k : Int)) = True := eq_true (by omega)
    refine run_driveS 80 ?_
    simp only [go_sem, v109, v109_0, v109_1, hd, hwm]
    refine run_drw (by kernel_rfl) ?_
    refine drun_drive 40 (p := (_, _)) ?_
    simp only [go_sem, v109_2, hp, hd, hwm, h0, h1, h1', h2, h3, h4, h5, h6, h7, h8]
    refine drun_end ?_
    refine run_driveS 80 ?_
    simp only [go_sem]
    refine run_ret' Tryd.func109 res109 ?_
    simp only [go_sem, rr109]
    exact hQ
def fe (x y m : Nat) (f : Nat → Nat) : Nat → Nat := fun j => (f j * x % ell + f (m + j) * y % ell) % ell
theorem fe_lt (x y m : Nat) (f : Nat → Nat) (j : Nat) : fe x y m f j < ell := mod_lt' _
theorem scs_two_get (m : Nat) (f : Nat → Nat) {i : Nat} (h : i < m) : ((scs (2 * m) f).drop (m * 4 + i * 4)).take 4 = lc (f (m + i)) := by
  have := scs_get' (2 * m) f (i := m + i) (by omega)
  rw [Nat.add_mul] at this
  exact this
theorem fold_elements (hG : G 0 = tbl) (x y m : Nat) (hx : x < 115792089237316195423570985008687907853269984665640564039457584007913129639936) (hy : y < 115792089237316195423570985008687907853269984665640564039457584007913129639936) (hm : 0 < m) (hm2 : m < 1000000) (c : Cap) (hc : c = .grow 4 ∨ ∃ k, c = .exact k ∧ 2 * m ≤ k) (f : Nat → Nat) (hf : ∀ j, f j < 115792089237316195423570985008687907853269984665640564039457584007913129639936) (Q : V → Heap → Prop)
    (hQ : Q (.sl 1 0 m (.exact m)) [some ⟨.ro, scs (2 * m) f⟩, some ⟨.rw, scs m (fe x y m f)⟩]) : VCall Tryd.prog G 88 [lw x, .sl 0 0 (2 * m) c, lw y] [some ⟨.ro, scs (2 * m) f⟩] Q := by
  have hl := ell_lt
  have a1 : ((32 : Int) * (m : Int) ≤ 281474976710656) = True := eq_true (by omega)
  have a2 : ((m : Int) ≤ 9223372036854775807) = True := eq_true (by omega)
  refine vcall_body Tryd.func88 nm88 code88 nt88 ?_
  refine run_driveS 80 ?_
  simp only [go_sem, v88, v88_0, v88_1]
  refine run_call' rfl ?_
  simp only [go_sem, calV]
  refine halves_ 0 m hm hm2 c hc f rfl ?_
  refine run_driveS 80 ?_
  simp only [go_sem, v88_2, v88_3, v88_10, a1, a2, ↓scs_zero]
  refine run_rename [0, 1, 2, 3] (st' := ⟨[.unk, .unk, .unk, .ptr 1 0, .unk, .ptr 2 0, .nils, .sl 0 0 m (.exact m), .sl 0 (m * 4) m (.exact m), .sl 3 0 m (.exact m)] ++ List.replicate 10 .unk ++ [.sl 0 0 m (.exact m), .int .i64 m, .int .i64 (0 : Nat)] ++ List.replicate 22 .unk, [some ⟨.ro, scs (2 * m) f⟩, some ⟨.rw, lc x⟩, some ⟨.rw, lc y⟩, some ⟨.rw, scs m fun j => if j < 0 then fe x y m f j else 0⟩]⟩) rfl (by simp) ?_ ?_ ?_ (run_for (fun i => ⟨[.unk, .unk, .unk, .ptr 1 0, .unk, .ptr 2 0, .nils, .sl 0 0 m (.exact m), .sl 0 (m * 4) m (.exact m), .sl 3 0 m (.exact m)] ++ List.replicate 10 .unk ++ [.sl 0 0 m (.exact m), .int .i64 m, .int .i64 i] ++ List.replicate 22 .unk, [some ⟨.ro, scs (2 * m) f⟩, some ⟨.rw, lc x⟩, some ⟨.rw, lc y⟩, some ⟨.rw, scs m fun j => if j < i then fe x y m f j else 0⟩]⟩) m (fun i hi ih => ?_) ?_)
  · rw [show (scs m fun j => if j < 0 then fe x y m f j else 0) = scs m fun _ => 0 from scs_congr fun j _ => if_neg (by omega)]
    simp only [go_sem, hfit, lc_fit, scs_fit, fit, ren, gmap, lw_plain, true_or, or_true]
  · simp [uniq, wrB]
  · simp only [go_sem, hfit, lc_fit, scs_fit, fit, ren, gmap, lw_plain, true_or, or_true]
  · have h0 : ((i : Int) < (m : Int)) = True := eq_true (by omega)
    have hw : IntKind.i64.wrap ((i : Int) + 1) = ((i + 1 : Nat) : Int) := by rw [wrap_i64 (by omega) (by omega)]; omega
    have g1 := scs_get' (2 * m) f (i := i) (by omega)
    have g2 := scs_two_get m f hi
    have hin := scs_in m (fun j => if j < i then fe x y m f j else 0) (i := i) (by omega)
    have hset := scs_set m (fun j => if j < i then fe x y m f j else 0) (fun j => if j < i + 1 then fe x y m f j else 0) (i := i) (v := fe x y m f i) (by omega) (by simp) (fun j _ hj => by by_cases h1 : j < i <;> simp [h1] <;> omega)
    have b1 : (i * 4 + 4 ≤ m * 4) = True := eq_true (by omega)
    refine run_loop_eq v88_9.eq_1 ?_
    refine run_driveS 80 ?_
    simp only [go_sem, v88_4, v88_7, v88_5, h0, g1]
    refine run_drw (by kernel_rfl) ?_
    refine drun_drive 40 (p := (_, _)) ?_
    simp only [go_sem, v88_6, h0, g1, g2]
    refine drun_call' ?_
    simp only [go_sem, calV, m_times]
    refine line_times hG _ _ (hf i) hx ?_
    refine drun_drive 40 (p := (_, _)) ?_
    simp only [go_sem, g2]
    refine drun_call' ?_
    simp only [go_sem, calV, m_times]
    refine line_times hG _ _ (hf (m + i)) hy ?_
    refine drun_drive 40 (p := (_, _)) ?_
    simp only [go_sem]
    refine drun_call' ?_
    simp only [go_sem, calV, m_add]
    refine line_add hG _ _ (mod_lt _) (mod_lt _) ?_
    rw [show (f i * x % ell + f (m + i) * y % ell) % ell = fe x y m f i from rfl]
    refine drun_drive 40 (p := (_, _)) ?_
    simp only [go_sem, h0, b1, hin, hset]
    refine drun_end ?_
    refine run_driveS 80 ?_
    simp only [go_sem, v88_8, hw]
    refine run_rename [0, 1, 2, 3] rfl (by simp) ?_ ?_ ?_ (ih)
    · simp only [go_sem, hfit, lc_fit, scs_fit, fit, ren, gmap, lw_plain, true_or, or_true]
    · simp [uniq, wrB]
    · simp only [go_sem, hfit, lc_fit, scs_fit, fit, ren, gmap, lw_plain, true_or, or_true]
  · have h0 : ((m : Int) < (m : Int)) = False := eq_false (by omega)
    refine run_loop_eq v88_9.eq_1 ?_
    refine run_driveS 80 ?_
    simp only [go_sem, v88_4, h0]
    refine run_exit rfl ?_
    refine run_driveS 80 ?_
    simp only [go_sem, v88_11]
    rw [show (scs m fun j => if j < m then fe x y m f j else 0) = scs m (fe x y m f) from scs_congr fun j hj => if_pos hj]
    refine run_ret_drop Tryd.func88 res88 [0, 3] (.sl 1 0 m (.exact m)) _ rfl (by simp) ?_ ?_ ?_ (hQ)
    · simp only [go_sem, hfit, lc_fit, scs_fit, fit, ren, gmap, lw_plain, true_or, or_true]
    · simp [uniq, wrB]
    · simp only [go_sem, rr88, ren, rens, gmap]
end Go.Vs.Tryd
