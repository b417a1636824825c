/- R4: what the functions of the program answer, over the machine of plain values. -/
import Derived.Test.YtaalannjlomiiaaDoorR3
set_option linter.unusedVariables false
set_option linter.unusedSimpArgs false
namespace Go.Vs.Tryd
open Go.Proofs
variable {G : Nat → List V}
set_option linter.unusedSimpArgs false
attribute [local go_sem] List.length_append List.all_append ge_iff_le gt_iff_lt Int.natCast_nonneg Int.toNat_natCast Nat.mul_one b_and_ll b_shr_ll b_mul_ll b_add_ll b_or_ll b_shl_ll pick_ll pick_lc pick_bb driveS stopV drive stepV exo expo evs fillV isNil nilKind eqV eqL optA optM sliceAtV ev kn ldc stc splice appV srcV lenV setd wantV exitV rvs rv one List.length_cons List.length_nil List.cons_append List.nil_append List.append_nil List.replicate List.getD_cons_zero List.getD_cons_succ List.set_cons_zero List.set_cons_succ List.getElem?_cons_zero List.getElem?_cons_succ List.getElem?_nil List.take_succ_cons List.take_zero List.take_nil List.drop_succ_cons List.drop_zero List.drop_nil List.all_cons List.all_nil List.any_cons List.any_nil Bool.and_true Bool.true_and Bool.and_self Option.map_some Option.map_none Option.bind_some Option.some.injEq Nat.add_zero Nat.zero_add Int.toNat_zero Int.toNat_one Int.zero_add Int.add_zero if_true if_false ite_true ite_false and_true true_and and_self ne_eq not_false_eq_true not_true_eq_false decide_true decide_false Bool.false_eq_true Bool.not_true Bool.not_false beq_self_eq_true BEq.rfl Bool.not_eq_true Nat.le_refl Int.le_refl Nat.zero_le List.foldl List.map_cons List.map_nil Prod.mk.injEq Int.cast_ofNat_Int Int.zero_le_ofNat b_add_cc b_add_cl b_add_lc b_mul_cc b_mul_cl b_mul_lc b_sub_cc b_sub_cl b_sub_lc b_and_cc b_and_cl b_and_lc b_or_cc b_or_cl b_or_lc b_xor_cc b_xor_cl b_xor_lc b_andNot_cc b_andNot_cl b_andNot_lc b_shr_cc b_shr_cl b_shr_lc b_shl_cc b_shl_cl b_shl_lc b_lss b_leq b_gtr b_geq b_add_i b_sub_i b_mul_i beq_cc beq_cl beq_lc beq_ll b_quo_i b_rem_i neg_u64 wrap_i64 driveD stepD idsAt idOf maskH_nil restore_nil restore_mask List.filterMap_nil List.filterMap_cons VOp.looks VOp.makes exA cells_agg cells_int cells_bool cells_str cells_nilp cells_ptr cells_glob cells_nils cells_sl cells_nilf cells_fn cells_nili cells_ifc known_agg known_tup known_int known_bool known_str known_nilp known_ptr known_glob known_nils known_sl known_nilf known_fn known_nili known_ifc known_unk one_agg one_tup one_int one_bool one_str one_nilp one_ptr one_glob one_nils one_sl one_nilf one_fn one_nili one_ifc asK_int asN_int asB_bool asS_str asG_agg asT_tup
attribute [local go_sem ↓] lc_len lc_take lc_drop lc_known lc_one lc_rens lc_cells lw_known lw_agg lw_asG
attribute [local go_sem] lt_nat lt_natl lt_lnat lt_ll
set_option maxRecDepth 100000
set_option maxHeartbeats 1000000

theorem shl16 (x w : Nat) (hx : x < 18446744073709551616) (hw : w < 65536) : ∃ y, o64 (l64 x 16) w = y ∧ y < 18446744073709551616 ∧ y = x * 65536 % 18446744073709551616 + w := by
  refine ⟨_, rfl, ?_⟩
  have e : l64 x 16 = 2 ^ 16 * (x % 281474976710656) := by
    show x * 65536 % 18446744073709551616 = 65536 * (x % 281474976710656)
    omega
  rw [e, or_add 16 _ _ hw (by omega)]
  omega
theorem shr48 (x : Nat) (hx : x < 18446744073709551616) : r64 x 48 = x / 281474976710656 := rfl
theorem and60 (x : Nat) (hx : x < 18446744073709551616) : a64 x 1152921504606846975 = x % 1152921504606846976 := by
  unfold a64
  rw [show 1152921504606846975 % 18446744073709551616 = 2 ^ 60 - 1 from rfl, Nat.and_two_pow_sub_one_eq_mod, Nat.mod_eq_of_lt hx]
theorem and32 (x : Nat) (hx : x < 18446744073709551616) : a64 x 4294967295 = x % 4294967296 := by
  unfold a64
  rw [show 4294967295 % 18446744073709551616 = 2 ^ 32 - 1 from rfl, Nat.and_two_pow_sub_one_eq_mod, Nat.mod_eq_of_lt hx]
theorem piece (m q c : Nat) (hm : m < 4294967296) (hq : q < 262144) (hc : c < 4294967296) : ∃ p c', a64 (w64 (w64 (m * q) + c)) 4294967295 = p ∧ r64 (w64 (w64 (m * q) + c)) 32 = c' ∧ p < 4294967296 ∧ c' < 4294967296 ∧ m * q + c = p + 4294967296 * c' := by
  have h : m * q ≤ 4294967295 * 262143 := Nat.mul_le_mul (by omega) (by omega)
  refine ⟨_, _, rfl, rfl, ?_⟩
  have e : w64 (w64 (m * q) + c) = m * q + c := by unfold w64; omega
  rw [e, and32 _ (by omega)]
  have e2 : r64 (m * q + c) 32 = (m * q + c) / 4294967296 := rfl
  rw [e2]
  omega
theorem or32 (x y : Nat) (hx : x < 4294967296) (hy : y < 4294967296) : ∃ z, o64 x (l64 y 32) = z ∧ z < 18446744073709551616 ∧ z = x + 4294967296 * y := by
  refine ⟨_, rfl, ?_⟩
  have e : l64 y 32 = 2 ^ 32 * y := by
    show y * 4294967296 % 18446744073709551616 = 4294967296 * y
    omega
  rw [e, o64_comm, or_add 32 _ _ hx (by omega)]
  omega
theorem lc_ell : lc ell = [.int .u64 (nl 6346243789798364141), .int .u64 (nl 1503914060200516822), .int .u64 (nl 0), .int .u64 (nl 1152921504606846976)] := rfl
theorem eq_nat (a b : Nat) : ((a : Int) == nl b) = decide (a = b) := beq_cl a b

/-- What the step's numbers say, in short. -/
theorem step_num {R w q low qc D1 b1 : Nat} (hR : R < ell) (hw : w < 65536) (h1 : 65536 * R + w = q * 7237005577332262213973186563042994240829374041602535252466099000494570602496 + low) (hlow : low < 7237005577332262213973186563042994240829374041602535252466099000494570602496) (h2 : qc = q * 27742317777372353535851937790883648493) (hq : q < 262144) (h3 : low + 115792089237316195423570985008687907853269984665640564039457584007913129639936 * b1 = qc + D1) (hD : D1 < 115792089237316195423570985008687907853269984665640564039457584007913129639936) (hb : b1 ≤ 1) :
    (b1 = 0 → D1 < ell → (65536 * R + w) % ell = D1) ∧ (b1 = 0 → ¬ D1 < ell → False) ∧ (b1 = 1 → ∃ D2, D1 + ell = 115792089237316195423570985008687907853269984665640564039457584007913129639936 + D2 ∧ D2 < ell ∧ (65536 * R + w) % ell = D2) := by
  have hN : 65536 * R + w + qc = q * ell + low := by
    rw [h1, h2]
    have : q * ell = q * 7237005577332262213973186563042994240829374041602535252466099000494570602496 + q * 27742317777372353535851937790883648493 := by rw [← Nat.mul_add]; rfl
    omega
  have he : ell = 7237005577332262213973186563042994240857116359379907606001950938285454250989 := rfl
  refine ⟨fun e h => ?_, fun e h => ?_, fun e => ?_⟩
  · subst e
    have : 65536 * R + w = D1 + ell * q := by rw [Nat.mul_comm ell q]; omega
    rw [this, Nat.add_mul_mod_self_left, Nat.mod_eq_of_lt h]
  · subst e; omega
  · subst e
    have hqc : qc < 262144 * 27742317777372353535851937790883648493 := by rw [h2]; omega
    have hq1 : 1 ≤ q := by
      rcases Nat.eq_zero_or_pos q with e | e
      · rw [e, Nat.zero_mul] at h2; omega
      · exact e
    refine ⟨D1 + ell - 115792089237316195423570985008687907853269984665640564039457584007913129639936, by omega, by omega, ?_⟩
    obtain ⟨p, rfl⟩ : ∃ p, q = p + 1 := ⟨q - 1, by omega⟩
    have : 65536 * R + w = D1 + ell - 115792089237316195423570985008687907853269984665640564039457584007913129639936 + ell * p := by rw [Nat.mul_comm ell p]; rw [Nat.add_mul, Nat.one_mul] at hN; omega
    rw [this, Nat.add_mul_mod_self_left, Nat.mod_eq_of_lt (by omega)]

theorem step_tail (N low qc : Nat) (hlow : low < 115792089237316195423570985008687907853269984665640564039457584007913129639936) (hqc : qc < 115792089237316195423570985008687907853269984665640564039457584007913129639936)
    (hs : ∀ D1 b1, low + 115792089237316195423570985008687907853269984665640564039457584007913129639936 * b1 = qc + D1 → D1 < 115792089237316195423570985008687907853269984665640564039457584007913129639936 → b1 ≤ 1 → (b1 = 0 → D1 < ell → N % ell = D1) ∧ (b1 = 0 → ¬ D1 < ell → False) ∧ (b1 = 1 → ∃ D2, D1 + ell = 115792089237316195423570985008687907853269984665640564039457584007913129639936 + D2 ∧ D2 < ell ∧ N % ell = D2)) (h0 h1 h4 : Option Blk) :
    Run Tryd.prog G 29 0 (fun v h' => v = lw (N % ell) ∧ h' = []) ([.r (v29_25.drop 2), .c (.seq (.seq (.reg v29_26) (.cond (.t 97) (.reg v29_27) .skip)) (.seq (.seq (.reg v29_28) (.cond (.t 107) (.reg v29_29) .skip)) (.seq (.reg v29_30) .ret)))],
      ⟨[.unk, .unk, .unk, .unk, .ptr 1 0, .unk, .unk, .unk, .ptr 3 0] ++ List.replicate 82 .unk ++ [lw low, lw qc] ++ List.replicate 22 .unk, [h0, some ⟨.rw, lc 0⟩, none, some ⟨.rw, lc ell⟩, none, none]⟩) := by
  have hl := ell_lt
  unfold v29_25
  refine run_driveS 80 ?_
  simp only [go_sem, Nat.reduceAdd, Nat.reduceSub, Nat.reduceLeDiff, Nat.reduceMul, Nat.reduceLT, Nat.reduceEqDiff, Int.reduceLT, Int.reduceLE, Int.reduceAdd, Int.reduceSub, Int.reduceMul, Int.reduceToNat, reduceIte, reduceCtorEq, Nat.reduceBEq, List.drop]
  refine run_call' rfl ?_
  simp only [go_sem, Nat.reduceAdd, Nat.reduceSub, Nat.reduceLeDiff, Nat.reduceMul, Nat.reduceLT, Nat.reduceEqDiff, Int.reduceLT, Int.reduceLE, Int.reduceAdd, Int.reduceSub, Int.reduceMul, Int.reduceToNat, reduceIte, reduceCtorEq, Nat.reduceBEq, calV]
  refine ref_minus low qc hlow hqc fun D1 b1 hD1 hb1 he1 => ?_
  obtain ⟨k1, k2, k3⟩ := hs D1 b1 he1 hD1 hb1
  refine run_driveS 80 ?_
  simp only [go_sem, Nat.reduceAdd, Nat.reduceSub, Nat.reduceLeDiff, Nat.reduceMul, Nat.reduceLT, Nat.reduceEqDiff, Int.reduceLT, Int.reduceLE, Int.reduceAdd, Int.reduceSub, Int.reduceMul, Int.reduceToNat, reduceIte, reduceCtorEq, Nat.reduceBEq, v29_26]
  by_cases hb : b1 = 1
  · refine run_cond_t (by simp only [go_sem, Nat.reduceAdd, Nat.reduceSub, Nat.reduceLeDiff, Nat.reduceMul, Nat.reduceLT, Nat.reduceEqDiff, Int.reduceLT, Int.reduceLE, Int.reduceAdd, Int.reduceSub, Int.reduceMul, Int.reduceToNat, reduceIte, reduceCtorEq, Nat.reduceBEq, decide_eq_true hb]) ?_
    obtain ⟨D2, e1, e2, e3⟩ := k3 hb
    refine run_driveS 80 ?_
    simp only [go_sem, Nat.reduceAdd, Nat.reduceSub, Nat.reduceLeDiff, Nat.reduceMul, Nat.reduceLT, Nat.reduceEqDiff, Int.reduceLT, Int.reduceLE, Int.reduceAdd, Int.reduceSub, Int.reduceMul, Int.reduceToNat, reduceIte, reduceCtorEq, Nat.reduceBEq, v29_27]
    refine run_call' rfl ?_
    simp only [go_sem, Nat.reduceAdd, Nat.reduceSub, Nat.reduceLeDiff, Nat.reduceMul, Nat.reduceLT, Nat.reduceEqDiff, Int.reduceLT, Int.reduceLE, Int.reduceAdd, Int.reduceSub, Int.reduceMul, Int.reduceToNat, reduceIte, reduceCtorEq, Nat.reduceBEq, calV]
    refine ref_plus D1 ell hD1 hl fun D b hD hb' he => ?_
    obtain rfl : D = D2 := by omega
    refine run_driveS 80 ?_
    simp only [go_sem, Nat.reduceAdd, Nat.reduceSub, Nat.reduceLeDiff, Nat.reduceMul, Nat.reduceLT, Nat.reduceEqDiff, Int.reduceLT, Int.reduceLE, Int.reduceAdd, Int.reduceSub, Int.reduceMul, Int.reduceToNat, reduceIte, reduceCtorEq, Nat.reduceBEq, v29_28]
    refine run_call' rfl ?_
    simp only [go_sem, Nat.reduceAdd, Nat.reduceSub, Nat.reduceLeDiff, Nat.reduceMul, Nat.reduceLT, Nat.reduceEqDiff, Int.reduceLT, Int.reduceLE, Int.reduceAdd, Int.reduceSub, Int.reduceMul, Int.reduceToNat, reduceIte, reduceCtorEq, Nat.reduceBEq, calV]
    refine ref_below D ell hD hl ?_
    refine run_driveS 80 ?_
    simp only [go_sem, Nat.reduceAdd, Nat.reduceSub, Nat.reduceLeDiff, Nat.reduceMul, Nat.reduceLT, Nat.reduceEqDiff, Int.reduceLT, Int.reduceLE, Int.reduceAdd, Int.reduceSub, Int.reduceMul, Int.reduceToNat, reduceIte, reduceCtorEq, Nat.reduceBEq]
    refine run_cond_f (by simp only [go_sem, Nat.reduceAdd, Nat.reduceSub, Nat.reduceLeDiff, Nat.reduceMul, Nat.reduceLT, Nat.reduceEqDiff, Int.reduceLT, Int.reduceLE, Int.reduceAdd, Int.reduceSub, Int.reduceMul, Int.reduceToNat, reduceIte, reduceCtorEq, Nat.reduceBEq, decide_eq_true e2]) ?_
    refine run_driveS 80 ?_
    simp only [go_sem, Nat.reduceAdd, Nat.reduceSub, Nat.reduceLeDiff, Nat.reduceMul, Nat.reduceLT, Nat.reduceEqDiff, Int.reduceLT, Int.reduceLE, Int.reduceAdd, Int.reduceSub, Int.reduceMul, Int.reduceToNat, reduceIte, reduceCtorEq, Nat.reduceBEq, v29_30]
    refine run_ret_drop Tryd.func29 res29 [] (lw (N % ell)) [] rfl (by simp) trivial (by simp [uniq]) ?_ ⟨rfl, rfl⟩
    rw [e3]
    simp only [go_sem, Nat.reduceAdd, Nat.reduceSub, Nat.reduceLeDiff, Nat.reduceMul, Nat.reduceLT, Nat.reduceEqDiff, Int.reduceLT, Int.reduceLE, Int.reduceAdd, Int.reduceSub, Int.reduceMul, Int.reduceToNat, reduceIte, reduceCtorEq, Nat.reduceBEq, r29, lw_plain]
  · refine run_cond_f (by simp only [go_sem, Nat.reduceAdd, Nat.reduceSub, Nat.reduceLeDiff, Nat.reduceMul, Nat.reduceLT, Nat.reduceEqDiff, Int.reduceLT, Int.reduceLE, Int.reduceAdd, Int.reduceSub, Int.reduceMul, Int.reduceToNat, reduceIte, reduceCtorEq, Nat.reduceBEq, decide_eq_false hb]) ?_
    have hb0 : b1 = 0 := by omega
    refine run_driveS 80 ?_
    simp only [go_sem, Nat.reduceAdd, Nat.reduceSub, Nat.reduceLeDiff, Nat.reduceMul, Nat.reduceLT, Nat.reduceEqDiff, Int.reduceLT, Int.reduceLE, Int.reduceAdd, Int.reduceSub, Int.reduceMul, Int.reduceToNat, reduceIte, reduceCtorEq, Nat.reduceBEq, v29_28]
    refine run_call' rfl ?_
    simp only [go_sem, Nat.reduceAdd, Nat.reduceSub, Nat.reduceLeDiff, Nat.reduceMul, Nat.reduceLT, Nat.reduceEqDiff, Int.reduceLT, Int.reduceLE, Int.reduceAdd, Int.reduceSub, Int.reduceMul, Int.reduceToNat, reduceIte, reduceCtorEq, Nat.reduceBEq, calV]
    refine ref_below D1 ell hD1 hl ?_
    refine run_driveS 80 ?_
    simp only [go_sem, Nat.reduceAdd, Nat.reduceSub, Nat.reduceLeDiff, Nat.reduceMul, Nat.reduceLT, Nat.reduceEqDiff, Int.reduceLT, Int.reduceLE, Int.reduceAdd, Int.reduceSub, Int.reduceMul, Int.reduceToNat, reduceIte, reduceCtorEq, Nat.reduceBEq]
    by_cases hlt : D1 < ell
    · refine run_cond_f (by simp only [go_sem, Nat.reduceAdd, Nat.reduceSub, Nat.reduceLeDiff, Nat.reduceMul, Nat.reduceLT, Nat.reduceEqDiff, Int.reduceLT, Int.reduceLE, Int.reduceAdd, Int.reduceSub, Int.reduceMul, Int.reduceToNat, reduceIte, reduceCtorEq, Nat.reduceBEq, decide_eq_true hlt]) ?_
      refine run_driveS 80 ?_
      simp only [go_sem, Nat.reduceAdd, Nat.reduceSub, Nat.reduceLeDiff, Nat.reduceMul, Nat.reduceLT, Nat.reduceEqDiff, Int.reduceLT, Int.reduceLE, Int.reduceAdd, Int.reduceSub, Int.reduceMul, Int.reduceToNat, reduceIte, reduceCtorEq, Nat.reduceBEq, v29_30]
      refine run_ret_drop Tryd.func29 res29 [] (lw (N % ell)) [] rfl (by simp) trivial (by simp [uniq]) ?_ ⟨rfl, rfl⟩
      rw [k1 hb0 hlt]
      simp only [go_sem, Nat.reduceAdd, Nat.reduceSub, Nat.reduceLeDiff, Nat.reduceMul, Nat.reduceLT, Nat.reduceEqDiff, Int.reduceLT, Int.reduceLE, Int.reduceAdd, Int.reduceSub, Int.reduceMul, Int.reduceToNat, reduceIte, reduceCtorEq, Nat.reduceBEq, r29, lw_plain]
    · exact (k2 hb0 hlt).elim

theorem ref_step (A w : Nat) (hA : A < ell) (hw : w < 65536) {h : Heap} {R : V → Heap → Prop} (hQ : R (lw ((65536 * A + w) % ell)) h) : VCall Tryd.prog G 29 [lw A, .int .u64 (w : Int)] h R := by
  refine vcall_plain (Q := fun v => v = lw ((65536 * A + w) % ell)) ?_ (fun g => by simp only [rens, ren, lw_plain]) (fun v g hv => by subst hv; exact lw_plain _ g) (fun v hv => by subst hv; exact hQ)
  have hl := ell_lt
  have he : ell = 7237005577332262213973186563042994240857116359379907606001950938285454250989 := rfl
  obtain ⟨a0, a1, a2, a3, ha0, ha1, ha2, ha3, ea, eA⟩ := limbs A
  have eA := eA (by omega)
  rw [ea]
  obtain ⟨q, fq, eq⟩ : ∃ q, q = a3 / 17592186044416 ∧ r64 a3 44 = q := ⟨_, rfl, rfl⟩
  have hq : q < 262144 := by omega
  refine vcall_body Tryd.func29 nm29 code29 nt29 ?_
  obtain ⟨y0, p0, hy0, fy0⟩ := shl16 a0 w ha0 hw
  refine run_driveS 80 ?_
  simp only [go_sem, Nat.reduceAdd, Nat.reduceSub, Nat.reduceLeDiff, Nat.reduceMul, Nat.reduceLT, Nat.reduceEqDiff, Int.reduceLT, Int.reduceLE, Int.reduceAdd, Int.reduceSub, Int.reduceMul, Int.reduceToNat, reduceIte, reduceCtorEq, Nat.reduceBEq, v29, v29_0, v29_1, v29_2, v29_3, v29_4, v29_10, eq, p0]
  obtain ⟨y1, p1, hy1, fy1⟩ := shl16 a1 (a0 / 281474976710656) ha1 (by omega)
  refine run_loop_eq v29_9.eq_1 ?_
  refine run_driveS 80 ?_
  simp only [go_sem, Nat.reduceAdd, Nat.reduceSub, Nat.reduceLeDiff, Nat.reduceMul, Nat.reduceLT, Nat.reduceEqDiff, Int.reduceLT, Int.reduceLE, Int.reduceAdd, Int.reduceSub, Int.reduceMul, Int.reduceToNat, reduceIte, reduceCtorEq, Nat.reduceBEq, v29_5, v29_7]
  refine run_drw (by kernel_rfl) ?_
  refine drun_drive 40 (p := (_, _)) ?_
  simp only [go_sem, Nat.reduceAdd, Nat.reduceSub, Nat.reduceLeDiff, Nat.reduceMul, Nat.reduceLT, Nat.reduceEqDiff, Int.reduceLT, Int.reduceLE, Int.reduceAdd, Int.reduceSub, Int.reduceMul, Int.reduceToNat, reduceIte, reduceCtorEq, Nat.reduceBEq, v29_6, shr48 a0 ha0, p1]
  refine drun_end ?_
  refine run_driveS 80 ?_
  simp only [go_sem, Nat.reduceAdd, Nat.reduceSub, Nat.reduceLeDiff, Nat.reduceMul, Nat.reduceLT, Nat.reduceEqDiff, Int.reduceLT, Int.reduceLE, Int.reduceAdd, Int.reduceSub, Int.reduceMul, Int.reduceToNat, reduceIte, reduceCtorEq, Nat.reduceBEq, v29_8]
  obtain ⟨y2, p2, hy2, fy2⟩ := shl16 a2 (a1 / 281474976710656) ha2 (by omega)
  refine run_loop_eq v29_9.eq_1 ?_
  refine run_driveS 80 ?_
  simp only [go_sem, Nat.reduceAdd, Nat.reduceSub, Nat.reduceLeDiff, Nat.reduceMul, Nat.reduceLT, Nat.reduceEqDiff, Int.reduceLT, Int.reduceLE, Int.reduceAdd, Int.reduceSub, Int.reduceMul, Int.reduceToNat, reduceIte, reduceCtorEq, Nat.reduceBEq, v29_5, v29_7]
  refine run_drw (by kernel_rfl) ?_
  refine drun_drive 40 (p := (_, _)) ?_
  simp only [go_sem, Nat.reduceAdd, Nat.reduceSub, Nat.reduceLeDiff, Nat.reduceMul, Nat.reduceLT, Nat.reduceEqDiff, Int.reduceLT, Int.reduceLE, Int.reduceAdd, Int.reduceSub, Int.reduceMul, Int.reduceToNat, reduceIte, reduceCtorEq, Nat.reduceBEq, v29_6, shr48 a1 ha1, p2]
  refine drun_end ?_
  refine run_driveS 80 ?_
  simp only [go_sem, Nat.reduceAdd, Nat.reduceSub, Nat.reduceLeDiff, Nat.reduceMul, Nat.reduceLT, Nat.reduceEqDiff, Int.reduceLT, Int.reduceLE, Int.reduceAdd, Int.reduceSub, Int.reduceMul, Int.reduceToNat, reduceIte, reduceCtorEq, Nat.reduceBEq, v29_8]
  obtain ⟨y3, p3, hy3, fy3⟩ := shl16 a3 (a2 / 281474976710656) ha3 (by omega)
  refine run_loop_eq v29_9.eq_1 ?_
  refine run_driveS 80 ?_
  simp only [go_sem, Nat.reduceAdd, Nat.reduceSub, Nat.reduceLeDiff, Nat.reduceMul, Nat.reduceLT, Nat.reduceEqDiff, Int.reduceLT, Int.reduceLE, Int.reduceAdd, Int.reduceSub, Int.reduceMul, Int.reduceToNat, reduceIte, reduceCtorEq, Nat.reduceBEq, v29_5, v29_7]
  refine run_drw (by kernel_rfl) ?_
  refine drun_drive 40 (p := (_, _)) ?_
  simp only [go_sem, Nat.reduceAdd, Nat.reduceSub, Nat.reduceLeDiff, Nat.reduceMul, Nat.reduceLT, Nat.reduceEqDiff, Int.reduceLT, Int.reduceLE, Int.reduceAdd, Int.reduceSub, Int.reduceMul, Int.reduceToNat, reduceIte, reduceCtorEq, Nat.reduceBEq, v29_6, shr48 a2 ha2, p3]
  refine drun_end ?_
  refine run_driveS 80 ?_
  simp only [go_sem, Nat.reduceAdd, Nat.reduceSub, Nat.reduceLeDiff, Nat.reduceMul, Nat.reduceLT, Nat.reduceEqDiff, Int.reduceLT, Int.reduceLE, Int.reduceAdd, Int.reduceSub, Int.reduceMul, Int.reduceToNat, reduceIte, reduceCtorEq, Nat.reduceBEq, v29_8]
  obtain ⟨z3, fz3, ez3⟩ : ∃ z, z = y3 % 1152921504606846976 ∧ a64 y3 1152921504606846975 = z := ⟨_, rfl, and60 y3 hy3⟩
  refine run_loop_eq v29_9.eq_1 ?_
  refine run_driveS 80 ?_
  simp only [go_sem, Nat.reduceAdd, Nat.reduceSub, Nat.reduceLeDiff, Nat.reduceMul, Nat.reduceLT, Nat.reduceEqDiff, Int.reduceLT, Int.reduceLE, Int.reduceAdd, Int.reduceSub, Int.reduceMul, Int.reduceToNat, reduceIte, reduceCtorEq, Nat.reduceBEq, v29_5]
  refine run_exit rfl ?_
  refine run_driveS 80 ?_
  simp only [go_sem, Nat.reduceAdd, Nat.reduceSub, Nat.reduceLeDiff, Nat.reduceMul, Nat.reduceLT, Nat.reduceEqDiff, Int.reduceLT, Int.reduceLE, Int.reduceAdd, Int.reduceSub, Int.reduceMul, Int.reduceToNat, reduceIte, reduceCtorEq, Nat.reduceBEq, v29_11, ez3]
  refine run_call' rfl ?_
  simp only [go_sem, Nat.reduceAdd, Nat.reduceSub, Nat.reduceLeDiff, Nat.reduceMul, Nat.reduceLT, Nat.reduceEqDiff, Int.reduceLT, Int.reduceLE, Int.reduceAdd, Int.reduceSub, Int.reduceMul, Int.reduceToNat, reduceIte, reduceCtorEq, Nat.reduceBEq, calV]
  refine ref_l ?_
  obtain ⟨m0, fm0, em0⟩ : ∃ m, m = 1559614445 ∧ a64 6346243789798364141 4294967295 = m := ⟨_, rfl, by decide⟩
  obtain ⟨m1, fm1, em1⟩ : ∃ m, m = 1477600026 ∧ r64 6346243789798364141 32 = m := ⟨_, rfl, by decide⟩
  obtain ⟨m2, fm2, em2⟩ : ∃ m, m = 2734136534 ∧ a64 1503914060200516822 4294967295 = m := ⟨_, rfl, by decide⟩
  obtain ⟨m3, fm3, em3⟩ : ∃ m, m = 350157278 ∧ r64 1503914060200516822 32 = m := ⟨_, rfl, by decide⟩
  refine run_driveS 80 ?_
  simp only [go_sem, Nat.reduceAdd, Nat.reduceSub, Nat.reduceLeDiff, Nat.reduceMul, Nat.reduceLT, Nat.reduceEqDiff, Int.reduceLT, Int.reduceLE, Int.reduceAdd, Int.reduceSub, Int.reduceMul, Int.reduceToNat, reduceIte, reduceCtorEq, Nat.reduceBEq]
  rw [lc_ell]
  refine run_driveS 80 ?_
  simp only [go_sem, Nat.reduceAdd, Nat.reduceSub, Nat.reduceLeDiff, Nat.reduceMul, Nat.reduceLT, Nat.reduceEqDiff, Int.reduceLT, Int.reduceLE, Int.reduceAdd, Int.reduceSub, Int.reduceMul, Int.reduceToNat, reduceIte, reduceCtorEq, Nat.reduceBEq, v29_13, em0, em1, em2, em3]
  rw [← lc_ell]
  refine run_driveS 80 ?_
  simp only [go_sem, Nat.reduceAdd, Nat.reduceSub, Nat.reduceLeDiff, Nat.reduceMul, Nat.reduceLT, Nat.reduceEqDiff, Int.reduceLT, Int.reduceLE, Int.reduceAdd, Int.reduceSub, Int.reduceMul, Int.reduceToNat, reduceIte, reduceCtorEq, Nat.reduceBEq, v29_14, v29_15, v29_23]
  obtain ⟨x0, c0, u0, v0, hx0, hc0, e0⟩ := piece m0 q 0 (by omega) hq (by decide)
  rw [Nat.add_zero] at u0 v0
  refine run_loop_eq v29_22.eq_1 ?_
  refine run_driveS 80 ?_
  simp only [go_sem, Nat.reduceAdd, Nat.reduceSub, Nat.reduceLeDiff, Nat.reduceMul, Nat.reduceLT, Nat.reduceEqDiff, Int.reduceLT, Int.reduceLE, Int.reduceAdd, Int.reduceSub, Int.reduceMul, Int.reduceToNat, reduceIte, reduceCtorEq, Nat.reduceBEq, v29_16, v29_20, v29_17, v29_18, v29_19, u0, v0]
  refine run_driveS 80 ?_
  simp only [go_sem, Nat.reduceAdd, Nat.reduceSub, Nat.reduceLeDiff, Nat.reduceMul, Nat.reduceLT, Nat.reduceEqDiff, Int.reduceLT, Int.reduceLE, Int.reduceAdd, Int.reduceSub, Int.reduceMul, Int.reduceToNat, reduceIte, reduceCtorEq, Nat.reduceBEq, v29_21]
  obtain ⟨x1, c1, u1, v1, hx1, hc1, e1⟩ := piece m1 q c0 (by omega) hq hc0
  refine run_loop_eq v29_22.eq_1 ?_
  refine run_driveS 80 ?_
  simp only [go_sem, Nat.reduceAdd, Nat.reduceSub, Nat.reduceLeDiff, Nat.reduceMul, Nat.reduceLT, Nat.reduceEqDiff, Int.reduceLT, Int.reduceLE, Int.reduceAdd, Int.reduceSub, Int.reduceMul, Int.reduceToNat, reduceIte, reduceCtorEq, Nat.reduceBEq, v29_16, v29_20, v29_17, v29_18, v29_19, u1, v1]
  refine run_driveS 80 ?_
  simp only [go_sem, Nat.reduceAdd, Nat.reduceSub, Nat.reduceLeDiff, Nat.reduceMul, Nat.reduceLT, Nat.reduceEqDiff, Int.reduceLT, Int.reduceLE, Int.reduceAdd, Int.reduceSub, Int.reduceMul, Int.reduceToNat, reduceIte, reduceCtorEq, Nat.reduceBEq, v29_21]
  obtain ⟨x2, c2, u2, v2, hx2, hc2, e2⟩ := piece m2 q c1 (by omega) hq hc1
  refine run_loop_eq v29_22.eq_1 ?_
  refine run_driveS 80 ?_
  simp only [go_sem, Nat.reduceAdd, Nat.reduceSub, Nat.reduceLeDiff, Nat.reduceMul, Nat.reduceLT, Nat.reduceEqDiff, Int.reduceLT, Int.reduceLE, Int.reduceAdd, Int.reduceSub, Int.reduceMul, Int.reduceToNat, reduceIte, reduceCtorEq, Nat.reduceBEq, v29_16, v29_20, v29_17, v29_18, v29_19, u2, v2]
  refine run_driveS 80 ?_
  simp only [go_sem, Nat.reduceAdd, Nat.reduceSub, Nat.reduceLeDiff, Nat.reduceMul, Nat.reduceLT, Nat.reduceEqDiff, Int.reduceLT, Int.reduceLE, Int.reduceAdd, Int.reduceSub, Int.reduceMul, Int.reduceToNat, reduceIte, reduceCtorEq, Nat.reduceBEq, v29_21]
  obtain ⟨x3, c3, u3, v3, hx3, hc3, e3⟩ := piece m3 q c2 (by omega) hq hc2
  refine run_loop_eq v29_22.eq_1 ?_
  refine run_driveS 80 ?_
  simp only [go_sem, Nat.reduceAdd, Nat.reduceSub, Nat.reduceLeDiff, Nat.reduceMul, Nat.reduceLT, Nat.reduceEqDiff, Int.reduceLT, Int.reduceLE, Int.reduceAdd, Int.reduceSub, Int.reduceMul, Int.reduceToNat, reduceIte, reduceCtorEq, Nat.reduceBEq, v29_16, v29_20, v29_17, v29_18, v29_19, u3, v3]
  refine run_driveS 80 ?_
  simp only [go_sem, Nat.reduceAdd, Nat.reduceSub, Nat.reduceLeDiff, Nat.reduceMul, Nat.reduceLT, Nat.reduceEqDiff, Int.reduceLT, Int.reduceLE, Int.reduceAdd, Int.reduceSub, Int.reduceMul, Int.reduceToNat, reduceIte, reduceCtorEq, Nat.reduceBEq, v29_21]
  obtain ⟨s0, g0, hs0, fs0⟩ := or32 x0 x1 hx0 hx1
  obtain ⟨s1, g1, hs1, fs1⟩ := or32 x2 x3 hx2 hx3
  have hagg : V.agg [.int .u64 (s0 : Int), .int .u64 (s1 : Int), .int .u64 (c3 : Int), .int .u64 (nl 0)] = lw (s0 + 18446744073709551616 * s1 + 340282366920938463463374607431768211456 * c3 + 6277101735386680763835789423207666416102355444464034512896 * 0) := (lw_of hs0 hs1 (by omega) (by decide)).symm
  have hlow := (lw_of (d0 := y0) (d1 := y1) (d2 := y2) (d3 := z3) hy0 hy1 hy2 (by omega)).symm
  rw [Nat.mul_zero, Nat.add_zero] at hagg
  refine run_loop_eq v29_22.eq_1 ?_
  refine run_driveS 80 ?_
  simp only [go_sem, Nat.reduceAdd, Nat.reduceSub, Nat.reduceLeDiff, Nat.reduceMul, Nat.reduceLT, Nat.reduceEqDiff, Int.reduceLT, Int.reduceLE, Int.reduceAdd, Int.reduceSub, Int.reduceMul, Int.reduceToNat, reduceIte, reduceCtorEq, Nat.reduceBEq, v29_16]
  refine run_exit rfl ?_
  refine run_driveS 80 ?_
  simp only [go_sem, Nat.reduceAdd, Nat.reduceSub, Nat.reduceLeDiff, Nat.reduceMul, Nat.reduceLT, Nat.reduceEqDiff, Int.reduceLT, Int.reduceLE, Int.reduceAdd, Int.reduceSub, Int.reduceMul, Int.reduceToNat, reduceIte, reduceCtorEq, Nat.reduceBEq, v29_24, v29_25, g0, g1, hagg, hlow]
  refine run_rename [0, 1, 2, 3, 4, 5] rfl (by simp) ?_ ?_ ?_ (step_tail (65536 * A + w) (y0 + 18446744073709551616 * y1 + 340282366920938463463374607431768211456 * y2 + 6277101735386680763835789423207666416102355444464034512896 * z3) (s0 + 18446744073709551616 * s1 + 340282366920938463463374607431768211456 * c3) (by omega) (by omega) (fun D1 b1 e1 hD hb => ?_) none none none)
  · simp only [go_sem, Nat.reduceAdd, Nat.reduceSub, Nat.reduceLeDiff, Nat.reduceMul, Nat.reduceLT, Nat.reduceEqDiff, Int.reduceLT, Int.reduceLE, Int.reduceAdd, Int.reduceSub, Int.reduceMul, Int.reduceToNat, reduceIte, reduceCtorEq, Nat.reduceBEq, hfit, lc_fit, scs_fit, fit, ren, gmap, lw_plain, true_or, or_true, lc_zero]
  · simp [uniq, wrB]
  · simp only [go_sem, Nat.reduceAdd, Nat.reduceSub, Nat.reduceLeDiff, Nat.reduceMul, Nat.reduceLT, Nat.reduceEqDiff, Int.reduceLT, Int.reduceLE, Int.reduceAdd, Int.reduceSub, Int.reduceMul, Int.reduceToNat, reduceIte, reduceCtorEq, Nat.reduceBEq, hfit, lc_fit, scs_fit, fit, ren, gmap, lw_plain, true_or, or_true]
  · refine step_num (q := q) hA hw ?_ ?_ ?_ hq e1 hD hb
    · omega
    · omega
    · subst fm0 fm1 fm2 fm3
      omega
end Go.Vs.Tryd
