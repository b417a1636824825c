/- Text 10 of 11 of this claim: a machine of plain values beside the model, what the functions of the program and of the reference answer over it, and last the row and its card. -/
import Derived.Test.YtgppccahbcbanaaDoorK9
import Derived.Test.YtgppccahbcbanaaDoorK8
import Derived.Test.YtgppccahbcbanaaDoorK7
set_option linter.unusedVariables false
set_option linter.unusedSimpArgs false
namespace Go.Vs.Tryd
open Go.Proofs
variable {G : Nat → List V}
set_option linter.unusedSimpArgs false
attribute [local go_sem] lenO_nils lenO_sl sliceAtV Int.sub_zero List.length_append List.all_append ge_iff_le gt_iff_lt Int.natCast_nonneg Int.toNat_natCast Nat.mul_one b_and_ll b_shr_ll b_mul_ll b_add_ll b_or_ll b_shl_ll pick_ll pick_lc pick_bb driveS stopV Option.isSome_some Option.isSome_none Kind.m Kind.w Kind.g look_ro look_rw look_grow drive stepV exo expo evs fillV isNil nilKind eqV eqL optA optM sliceAtV ev kn ldc stc splice appV srcV lenV setd wantV exitV rvs rv one List.length_cons List.length_nil List.cons_append List.nil_append List.append_nil List.replicate List.getD_cons_zero List.getD_cons_succ List.set_cons_zero List.set_cons_succ List.getElem?_cons_zero List.getElem?_cons_succ List.getElem?_nil List.take_succ_cons List.take_zero List.take_nil List.drop_succ_cons List.drop_zero List.drop_nil List.all_cons List.all_nil List.any_cons List.any_nil Bool.and_true Bool.true_and Bool.and_self Option.map_some Option.map_none Option.bind_some Option.some.injEq Nat.add_zero Nat.zero_add Int.toNat_zero Int.toNat_one Int.zero_add Int.add_zero if_true if_false ite_true ite_false and_true true_and and_self ne_eq not_false_eq_true not_true_eq_false decide_true decide_false Bool.false_eq_true Bool.not_true Bool.not_false beq_self_eq_true BEq.rfl Bool.not_eq_true Nat.le_refl Int.le_refl Nat.zero_le List.foldl List.map_cons List.map_nil Prod.mk.injEq Int.cast_ofNat_Int Int.zero_le_ofNat b_add_cc b_add_cl b_add_lc b_mul_cc b_mul_cl b_mul_lc b_sub_cc b_sub_cl b_sub_lc b_and_cc b_and_cl b_and_lc b_or_cc b_or_cl b_or_lc b_xor_cc b_xor_cl b_xor_lc b_andNot_cc b_andNot_cl b_andNot_lc b_shr_cc b_shr_cl b_shr_lc b_shl_cc b_shl_cl b_shl_lc b_lss b_leq b_gtr b_geq b_add_i b_sub_i b_mul_i beq_cc beq_cl beq_lc beq_ll b_quo_i b_rem_i neg_u64 wrap_i64 driveD stepD idsAt idOf maskH_nil restore_nil restore_mask List.filterMap_nil List.filterMap_cons VOp.looks VOp.makes exA cells_agg cells_int cells_bool cells_str cells_nilp cells_ptr cells_glob cells_nils cells_sl cells_nilf cells_fn cells_nili cells_ifc known_agg known_tup known_int known_bool known_str known_nilp known_ptr known_glob known_nils known_sl known_nilf known_fn known_nili known_ifc known_unk one_agg one_tup one_int one_bool one_str one_nilp one_ptr one_glob one_nils one_sl one_nilf one_fn one_nili one_ifc asK_int asN_int asB_bool asS_str asG_agg asT_tup true_or or_true false_or or_false
attribute [local go_sem_proc] Nat.reduceAdd Nat.reduceSub Nat.reduceLeDiff Nat.reduceMul Nat.reduceLT Nat.reduceEqDiff Int.reduceLT Int.reduceLE Int.reduceAdd Int.reduceSub Int.reduceMul Int.reduceToNat reduceIte reduceCtorEq Nat.reduceBEq
attribute [local go_sem ↓] lc_len lc_take lc_drop lc_known lc_one lc_rens lc_cells lw_known lw_agg lw_asG scs_known scs_one scs_len lc_take_add lc_drop_add brc_len brc_known brc_one brc_t6 brc_d6 brc_u brc_a brc_b brs_len brs_known brs_one
attribute [local go_sem] lt_nat lt_natl lt_lnat lt_ll bool_tf bool_ft
set_option maxRecDepth 100000
set_option maxHeartbeats 2000000
theorem join_ (hG : G 0 = tbl) (p q : Nat) (U : Nat → Nat) (hU : ∀ j, U j < 115792089237316195423570985008687907853269984665640564039457584007913129639936) (g h : Nat → Nat) (A B : Nat → Nat → Nat) (hA : ∀ i j, A i j < 115792089237316195423570985008687907853269984665640564039457584007913129639936) (hB : ∀ i j, B i j < 115792089237316195423570985008687907853269984665640564039457584007913129639936) (m : Nat) (hm : 0 < m) (hm4 : m ≤ 4) (c6 c7 : Nat → Cap) (l r : Nat) (hp : p < 115792089237316195423570985008687907853269984665640564039457584007913129639936) (hq : q < 115792089237316195423570985008687907853269984665640564039457584007913129639936) (hl : l < 115792089237316195423570985008687907853269984665640564039457584007913129639936) (hr : r < 115792089237316195423570985008687907853269984665640564039457584007913129639936) (hg : ∀ j, g j < 115792089237316195423570985008687907853269984665640564039457584007913129639936) (hh : ∀ j, h j < 115792089237316195423570985008687907853269984665640564039457584007913129639936) (hpw : ∃ k : Nat, k ≤ 10 ∧ 2 * m = 2 ^ k)
    (nz : ∀ j, j < 4 → U j % ell ≠ 0) (un : ∀ j k, j < 4 → k < 4 → j ≠ k → U j * U j % ell ≠ U k * U k % ell)
    (hn : ∀ i, i < 4 → psum (tK (inn (A i) (B i) m) (A i) (B i)) (tK q (fe (linv (U i)) (U i) m g) (fe (U i) (linv (U i)) m h)) (1 + 2 * m) % ell = pf1 p l r (U i) % ell)
    (hs : ∀ wh, wh < 3 → ∀ x, Go.VsP.Sol (fun c j => Go.VsP.ph (aug (fun c j => sqf (U j) c) (wnt wh) c j)) 0 x → x 0 = 0 ∧ x 1 = 0 ∧ x 2 = 0) {Q : V → Heap → Prop}
    (hQ : ∀ x : Nat → Nat → Nat, (∀ w j, x w j < 115792089237316195423570985008687907853269984665640564039457584007913129639936) → (∀ wh, wh < 3 → Go.VsP.Sol (fun c j => Go.VsP.ph (aug (fun c j => sqf (U j) c) (wnt wh) c j)) 1 (fun j => Go.VsP.ph (x wh j))) →
      (dif (rel4 (U 3) (kac (x 0) (fun i => tld (U i) (A i) (B i) m) 3) (kac (x 1) (fun i => tld (U i) (A i) (B i) m) 3) (kac (x 2) (fun i => tld (U i) (A i) (B i) m) 3) (tld (U 3) (A 3) (B 3) m)) (1 + 4 * m) = true → Q (.tup [.nils, .nils, .sl 11 0 (1 + 4 * m) (.exact (1 + 4 * m)), .int .i64 0]) [none, none, none, none, none, none, none, none, none, none, none, some ⟨.rw, scs (1 + 4 * m) (rel4 (U 3) (kac (x 0) (fun i => tld (U i) (A i) (B i) m) 3) (kac (x 1) (fun i => tld (U i) (A i) (B i) m) 3) (kac (x 2) (fun i => tld (U i) (A i) (B i) m) 3) (tld (U 3) (A 3) (B 3) m))⟩]) ∧
      (dif (rel4 (U 3) (kac (x 0) (fun i => tld (U i) (A i) (B i) m) 3) (kac (x 1) (fun i => tld (U i) (A i) (B i) m) 3) (kac (x 2) (fun i => tld (U i) (A i) (B i) m) 3) (tld (U 3) (A 3) (B 3) m)) (1 + 4 * m) = false → Q (.tup [.sl 11 4 (2 * m) (.exact (2 * m)), .sl 11 ((1 + 2 * m) * 4) (2 * m) (.exact (2 * m)), .nils, .int .i64 0]) [none, none, none, none, none, none, none, none, none, none, none, some ⟨.rw, scs (1 + 4 * m) (kac (x 1) (fun i => tld (U i) (A i) (B i) m) 3)⟩])) :
    VCall Tryd.prog G 10 [stL p q (.sl 0 0 (2 * m) (.grow 4)) (.sl 1 0 (2 * m) (.grow 4)), lw l, lw r, .sl 2 0 4 (.grow 6)] [some ⟨.ro, scs (2 * m) g⟩, some ⟨.ro, scs (2 * m) h⟩, some ⟨.ro, brs U m c6 c7⟩, some ⟨.ro, scs m (A 0)⟩, some ⟨.ro, scs m (B 0)⟩, some ⟨.ro, scs m (A 1)⟩, some ⟨.ro, scs m (B 1)⟩, some ⟨.ro, scs m (A 2)⟩, some ⟨.ro, scs m (B 2)⟩, some ⟨.ro, scs m (A 3)⟩, some ⟨.ro, scs m (B 3)⟩] Q := by
  have w1 : IntKind.i64.wrap 1 = 1 := by decide
  have w2 : IntKind.i64.wrap 2 = 2 := by decide
  have w3 : IntKind.i64.wrap 3 = 3 := by decide
  have w4 : IntKind.i64.wrap 4 = 4 := by decide
  refine vcall_body Tryd.func10 nm10 code10 nt10 ?_
  unfold stL
  refine run_driveS 80 ?_
  simp only [go_sem, v10, v10_0, v10_1, stk, std]
  refine run_call' rfl ?_
  simp only [go_sem, calV]
  refine vcall_at (given_ hG p q l r hp hq hl hr U hU g h hg hh A B hA hB m hm hm4 hpw c6 c7 nz un hn (Q := fun v k => v = .int .i64 0 ∧ k = [some ⟨.ro, scs (2 * m) g⟩, some ⟨.ro, scs (2 * m) h⟩, some ⟨.ro, brs U m c6 c7⟩, some ⟨.ro, scs m (A 0)⟩, some ⟨.ro, scs m (B 0)⟩, some ⟨.ro, scs m (A 1)⟩, some ⟨.ro, scs m (B 1)⟩, some ⟨.ro, scs m (A 2)⟩, some ⟨.ro, scs m (B 2)⟩, some ⟨.ro, scs m (A 3)⟩, some ⟨.ro, scs m (B 3)⟩]) ⟨rfl, rfl⟩) [0, 1, 2, 3, 4, 5, 6, 7, 8, 9, 10] (by simp) ?_ (uniq_nodup' (by decide)) ?_ ?_
  · exact gh_fit11 p q l r U g h A B m c6 c7 [some ⟨.rw, lc p ++ (lc q ++ [.sl 0 0 (2 * m) (.grow 4), .sl 1 0 (2 * m) (.grow 4)])⟩, some ⟨.rw, lc l⟩, some ⟨.rw, lc r⟩] _
  · simp only [rens, ren, gmap, stL, lw_plain, rens_append, lc_rens]
  rintro v k ⟨rfl, rfl⟩
  rw [puts_ro (by simp [wrB]) rfl (by simp)]
  simp only [List.map_cons, List.map_nil, Option.map_some, Option.map_none, renB, scs_rens, rens, ren, gmap, lw_plain, List.drop_succ_cons, List.drop_zero, List.cons_append, List.nil_append, List.append_nil, List.length_cons, List.length_nil, Nat.reduceAdd]
  refine run_driveS 80 ?_
  simp only [go_sem, v10_2]
  refine run_cond_f (by rfl) ?_
  refine run_driveS 80 ?_
  simp only [go_sem, v10_4]
  refine run_driveS 80 ?_
  simp only [go_sem, v10_5]
  refine run_driveS 80 ?_
  simp only [go_sem, v10_6, v10_15]
  refine run_loop_eq v10_14.eq_1 ?_
  refine run_driveS 80 ?_
  simp only [go_sem, v10_7, v10_12, v10_8, brs0 U, brc0 U]
  refine run_driveS 80 ?_
  simp only [go_sem, v10_9, brc0 U]
  refine run_call' rfl ?_
  simp only [go_sem, calV]
  refine vcall_at (told_ hG (U 0) (hU 0) (A 0) (B 0) (hA 0) (hB 0) m hm hm4 (c6 0) (c7 0) (Q := fun v k => v = .sl 2 0 (1 + 4 * m) (.grow 4) ∧ k = [some ⟨.ro, scs m (A 0)⟩, some ⟨.ro, scs m (B 0)⟩, some ⟨.grow, scs (1 + 4 * m) (tld (U 0) (A 0) (B 0) m)⟩]) ⟨rfl, rfl⟩) [3, 4] (by simp) ?_ (uniq_nodup' (by decide)) ?_ ?_
  · exact hfit_cons rfl (jb_ro (scs_rens ..)) (hfit_cons rfl (jb_ro (scs_rens ..)) hfit_nil)
  · simp only [rens, ren, gmap, rens_append, lc_rens]
  rintro v k ⟨rfl, rfl⟩
  rw [puts_ro (by simp [wrB]) rfl (by simp)]
  simp only [List.map_cons, List.map_nil, Option.map_some, Option.map_none, renB, scs_rens, rens, ren, gmap, lw_plain, List.drop_succ_cons, List.drop_zero, List.cons_append, List.nil_append, List.append_nil, List.length_cons, List.length_nil, Nat.reduceAdd]
  refine run_driveS 80 ?_
  simp only [go_sem]
  refine run_driveS 80 ?_
  simp only [go_sem, v10_10]
  refine run_cond_t (by rfl) ?_
  refine run_driveS 80 ?_
  simp only [go_sem, v10_11, brc0 U]
  refine run_call' rfl ?_
  simp only [go_sem, calV]
  refine vcall_at (square_ hG (U 0) (hU 0) m (c6 0) (c7 0) (some ⟨.ro, scs m (A 0)⟩) (some ⟨.ro, scs m (B 0)⟩) (Q := fun v k => v = .sl 2 0 3 (.exact 3) ∧ k = [none, none, some ⟨.rw, scs 3 (sqf (U 0))⟩]) ⟨rfl, rfl⟩) [3, 4] (by simp) ?_ (uniq_nodup' (by decide)) ?_ ?_
  · exact hfit_cons rfl (jb_ro (scs_rens ..)) (hfit_cons rfl (jb_ro (scs_rens ..)) hfit_nil)
  · simp only [rens, ren, gmap, rens_append, lc_rens]
  rintro v k ⟨rfl, rfl⟩
  rw [puts_ro (by simp [wrB]) rfl (by simp)]
  simp only [List.map_cons, List.map_nil, Option.map_some, Option.map_none, renB, scs_rens, rens, ren, gmap, lw_plain, List.drop_succ_cons, List.drop_zero, List.cons_append, List.nil_append, List.append_nil, List.length_cons, List.length_nil, Nat.reduceAdd]
  refine run_driveS 80 ?_
  simp only [go_sem, v10_13, w1]
  refine run_loop_eq v10_14.eq_1 ?_
  refine run_driveS 80 ?_
  simp only [go_sem, v10_7, v10_12, v10_8, brs1 U, brc1 U]
  refine run_driveS 80 ?_
  simp only [go_sem, v10_9, brc1 U]
  refine run_call' rfl ?_
  simp only [go_sem, calV]
  refine vcall_at (told_ hG (U 1) (hU 1) (A 1) (B 1) (hA 1) (hB 1) m hm hm4 (c6 1) (c7 1) (Q := fun v k => v = .sl 2 0 (1 + 4 * m) (.grow 4) ∧ k = [some ⟨.ro, scs m (A 1)⟩, some ⟨.ro, scs m (B 1)⟩, some ⟨.grow, scs (1 + 4 * m) (tld (U 1) (A 1) (B 1) m)⟩]) ⟨rfl, rfl⟩) [5, 6] (by simp) ?_ (uniq_nodup' (by decide)) ?_ ?_
  · exact hfit_cons rfl (jb_ro (scs_rens ..)) (hfit_cons rfl (jb_ro (scs_rens ..)) hfit_nil)
  · simp only [rens, ren, gmap, rens_append, lc_rens]
  rintro v k ⟨rfl, rfl⟩
  rw [puts_ro (by simp [wrB]) rfl (by simp)]
  simp only [List.map_cons, List.map_nil, Option.map_some, Option.map_none, renB, scs_rens, rens, ren, gmap, lw_plain, List.drop_succ_cons, List.drop_zero, List.cons_append, List.nil_append, List.append_nil, List.length_cons, List.length_nil, Nat.reduceAdd]
  refine run_driveS 80 ?_
  simp only [go_sem]
  refine run_driveS 80 ?_
  simp only [go_sem, v10_10]
  refine run_cond_t (by rfl) ?_
  refine run_driveS 80 ?_
  simp only [go_sem, v10_11, brc1 U]
  refine run_call' rfl ?_
  simp only [go_sem, calV]
  refine vcall_at (square_ hG (U 1) (hU 1) m (c6 1) (c7 1) (some ⟨.ro, scs m (A 1)⟩) (some ⟨.ro, scs m (B 1)⟩) (Q := fun v k => v = .sl 2 0 3 (.exact 3) ∧ k = [none, none, some ⟨.rw, scs 3 (sqf (U 1))⟩]) ⟨rfl, rfl⟩) [5, 6] (by simp) ?_ (uniq_nodup' (by decide)) ?_ ?_
  · exact hfit_cons rfl (jb_ro (scs_rens ..)) (hfit_cons rfl (jb_ro (scs_rens ..)) hfit_nil)
  · simp only [rens, ren, gmap, rens_append, lc_rens]
  rintro v k ⟨rfl, rfl⟩
  rw [puts_ro (by simp [wrB]) rfl (by simp)]
  simp only [List.map_cons, List.map_nil, Option.map_some, Option.map_none, renB, scs_rens, rens, ren, gmap, lw_plain, List.drop_succ_cons, List.drop_zero, List.cons_append, List.nil_append, List.append_nil, List.length_cons, List.length_nil, Nat.reduceAdd]
  refine run_driveS 80 ?_
  simp only [go_sem, v10_13, w2]
  refine run_loop_eq v10_14.eq_1 ?_
  refine run_driveS 80 ?_
  simp only [go_sem, v10_7, v10_12, v10_8, brs2 U, brc2 U]
  refine run_driveS 80 ?_
  simp only [go_sem, v10_9, brc2 U]
  refine run_call' rfl ?_
  simp only [go_sem, calV]
  refine vcall_at (told_ hG (U 2) (hU 2) (A 2) (B 2) (hA 2) (hB 2) m hm hm4 (c6 2) (c7 2) (Q := fun v k => v = .sl 2 0 (1 + 4 * m) (.grow 4) ∧ k = [some ⟨.ro, scs m (A 2)⟩, some ⟨.ro, scs m (B 2)⟩, some ⟨.grow, scs (1 + 4 * m) (tld (U 2) (A 2) (B 2) m)⟩]) ⟨rfl, rfl⟩) [7, 8] (by simp) ?_ (uniq_nodup' (by decide)) ?_ ?_
  · exact hfit_cons rfl (jb_ro (scs_rens ..)) (hfit_cons rfl (jb_ro (scs_rens ..)) hfit_nil)
  · simp only [rens, ren, gmap, rens_append, lc_rens]
  rintro v k ⟨rfl, rfl⟩
  rw [puts_ro (by simp [wrB]) rfl (by simp)]
  simp only [List.map_cons, List.map_nil, Option.map_some, Option.map_none, renB, scs_rens, rens, ren, gmap, lw_plain, List.drop_succ_cons, List.drop_zero, List.cons_append, List.nil_append, List.append_nil, List.length_cons, List.length_nil, Nat.reduceAdd]
  refine run_driveS 80 ?_
  simp only [go_sem]
  refine run_driveS 80 ?_
  simp only [go_sem, v10_10]
  refine run_cond_t (by rfl) ?_
  refine run_driveS 80 ?_
  simp only [go_sem, v10_11, brc2 U]
  refine run_call' rfl ?_
  simp only [go_sem, calV]
  refine vcall_at (square_ hG (U 2) (hU 2) m (c6 2) (c7 2) (some ⟨.ro, scs m (A 2)⟩) (some ⟨.ro, scs m (B 2)⟩) (Q := fun v k => v = .sl 2 0 3 (.exact 3) ∧ k = [none, none, some ⟨.rw, scs 3 (sqf (U 2))⟩]) ⟨rfl, rfl⟩) [7, 8] (by simp) ?_ (uniq_nodup' (by decide)) ?_ ?_
  · exact hfit_cons rfl (jb_ro (scs_rens ..)) (hfit_cons rfl (jb_ro (scs_rens ..)) hfit_nil)
  · simp only [rens, ren, gmap, rens_append, lc_rens]
  rintro v k ⟨rfl, rfl⟩
  rw [puts_ro (by simp [wrB]) rfl (by simp)]
  simp only [List.map_cons, List.map_nil, Option.map_some, Option.map_none, renB, scs_rens, rens, ren, gmap, lw_plain, List.drop_succ_cons, List.drop_zero, List.cons_append, List.nil_append, List.append_nil, List.length_cons, List.length_nil, Nat.reduceAdd]
  refine run_driveS 80 ?_
  simp only [go_sem, v10_13, w3]
  refine run_loop_eq v10_14.eq_1 ?_
  refine run_driveS 80 ?_
  simp only [go_sem, v10_7, v10_12, v10_8, brs3 U, brc3 U]
  refine run_driveS 80 ?_
  simp only [go_sem, v10_9, brc3 U]
  refine run_call' rfl ?_
  simp only [go_sem, calV]
  refine vcall_at (told_ hG (U 3) (hU 3) (A 3) (B 3) (hA 3) (hB 3) m hm hm4 (c6 3) (c7 3) (Q := fun v k => v = .sl 2 0 (1 + 4 * m) (.grow 4) ∧ k = [some ⟨.ro, scs m (A 3)⟩, some ⟨.ro, scs m (B 3)⟩, some ⟨.grow, scs (1 + 4 * m) (tld (U 3) (A 3) (B 3) m)⟩]) ⟨rfl, rfl⟩) [9, 10] (by simp) ?_ (uniq_nodup' (by decide)) ?_ ?_
  · exact hfit_cons rfl (jb_ro (scs_rens ..)) (hfit_cons rfl (jb_ro (scs_rens ..)) hfit_nil)
  · simp only [rens, ren, gmap, rens_append, lc_rens]
  rintro v k ⟨rfl, rfl⟩
  rw [puts_ro (by simp [wrB]) rfl (by simp)]
  simp only [List.map_cons, List.map_nil, Option.map_some, Option.map_none, renB, scs_rens, rens, ren, gmap, lw_plain, List.drop_succ_cons, List.drop_zero, List.cons_append, List.nil_append, List.append_nil, List.length_cons, List.length_nil, Nat.reduceAdd]
  refine run_driveS 80 ?_
  simp only [go_sem]
  refine run_driveS 80 ?_
  simp only [go_sem, v10_10]
  refine run_cond_f (by rfl) ?_
  refine run_driveS 80 ?_
  simp only [go_sem, v10_13, w4]
  refine run_loop_eq v10_14.eq_1 ?_
  refine run_driveS 80 ?_
  simp only [go_sem, v10_7]
  refine run_exit rfl ?_
  refine run_rename [0, 1, 2, 3, 4, 5, 6, 7, 8, 9, 10, 11, 14, 15, 18, 21, 24, 17, 20, 23, 26] rfl (by simp) ?_ (uniq_nodup' (by decide)) ?_ (join_mid hG p q U hU g h A B hA hB m hm hm4 c6 c7 hs hQ)
  · exact hfit_cons rfl (jb_g (scs_rens ..)) (hfit_cons rfl (jb_g (scs_rens ..)) (hfit_cons rfl (jb_g (brs_rens _ _ _ _ _ (gm12c _))) (hfit_cons rfl (jb_g (scs_rens ..)) (hfit_cons rfl (jb_g (scs_rens ..)) (hfit_cons rfl (jb_g (scs_rens ..)) (hfit_cons rfl (jb_g (scs_rens ..)) (hfit_cons rfl (jb_g (scs_rens ..)) (hfit_cons rfl (jb_g (scs_rens ..)) (hfit_cons rfl (jb_g (scs_rens ..)) (hfit_cons rfl (jb_g (scs_rens ..)) (hfit_cons rfl (jb_g (by simp only [rens_append, lc_rens]; rfl)) (hfit_cons rfl (jb_rw rfl) (hfit_cons rfl (jb_rw rfl) (hfit_cons rfl (jb_g (scs_rens ..)) (hfit_cons rfl (jb_g (scs_rens ..)) (hfit_cons rfl (jb_g (scs_rens ..)) (hfit_cons rfl (jb_g (scs_rens ..)) (hfit_cons rfl (jb_g (scs_rens ..)) (hfit_cons rfl (jb_g (scs_rens ..)) (hfit_cons rfl (jb_g (scs_rens ..)) hfit_nil))))))))))))))))))))
  · simp only [go_sem, fit, ren, gmap, true_or, or_true]
end Go.Vs.Tryd
namespace Go.Vs.Tryd
open Go.Proofs
variable {G : Nat → List V}
set_option linter.unusedSimpArgs false
attribute [local go_sem] lenO_nils lenO_sl sliceAtV Int.sub_zero List.length_append List.all_append ge_iff_le gt_iff_lt Int.natCast_nonneg Int.toNat_natCast Nat.mul_one b_and_ll b_shr_ll b_mul_ll b_add_ll b_or_ll b_shl_ll pick_ll pick_lc pick_bb driveS stopV Option.isSome_some Option.isSome_none Kind.m Kind.w Kind.g look_ro look_rw look_grow drive stepV exo expo evs fillV isNil nilKind eqV eqL optA optM sliceAtV ev kn ldc stc splice appV srcV lenV setd wantV exitV rvs rv one List.length_cons List.length_nil List.cons_append List.nil_append List.append_nil List.replicate List.getD_cons_zero List.getD_cons_succ List.set_cons_zero List.set_cons_succ List.getElem?_cons_zero List.getElem?_cons_succ List.getElem?_nil List.take_succ_cons List.take_zero List.take_nil List.drop_succ_cons List.drop_zero List.drop_nil List.all_cons List.all_nil List.any_cons List.any_nil Bool.and_true Bool.true_and Bool.and_self Option.map_some Option.map_none Option.bind_some Option.some.injEq Nat.add_zero Nat.zero_add Int.toNat_zero Int.toNat_one Int.zero_add Int.add_zero if_true if_false ite_true ite_false and_true true_and and_self ne_eq not_false_eq_true not_true_eq_false decide_true decide_false Bool.false_eq_true Bool.not_true Bool.not_false beq_self_eq_true BEq.rfl Bool.not_eq_true Nat.le_refl Int.le_refl Nat.zero_le List.foldl List.map_cons List.map_nil Prod.mk.injEq Int.cast_ofNat_Int Int.zero_le_ofNat b_add_cc b_add_cl b_add_lc b_mul_cc b_mul_cl b_mul_lc b_sub_cc b_sub_cl b_sub_lc b_and_cc b_and_cl b_and_lc b_or_cc b_or_cl b_or_lc b_xor_cc b_xor_cl b_xor_lc b_andNot_cc b_andNot_cl b_andNot_lc b_shr_cc b_shr_cl b_shr_lc b_shl_cc b_shl_cl b_shl_lc b_lss b_leq b_gtr b_geq b_add_i b_sub_i b_mul_i beq_cc beq_cl beq_lc beq_ll b_quo_i b_rem_i neg_u64 wrap_i64 driveD stepD idsAt idOf maskH_nil restore_nil restore_mask List.filterMap_nil List.filterMap_cons VOp.looks VOp.makes exA cells_agg cells_int cells_bool cells_str cells_nilp cells_ptr cells_glob cells_nils cells_sl cells_nilf cells_fn cells_nili cells_ifc known_agg known_tup known_int known_bool known_str known_nilp known_ptr known_glob known_nils known_sl known_nilf known_fn known_nili known_ifc known_unk one_agg one_tup one_int one_bool one_str one_nilp one_ptr one_glob one_nils one_sl one_nilf one_fn one_nili one_ifc asK_int asN_int asB_bool asS_str asG_agg asT_tup true_or or_true false_or or_false
set_option maxRecDepth 100000
section
theorem ph_addm (a b : Nat) : Go.VsP.ph ((a + b) % ell) = Go.VsP.ph a + Go.VsP.ph b := (Go.VsP.ph_mod _).trans (Go.VsP.ph_add a b)
theorem ph_inn (a b : Nat → Nat) : ∀ n, Go.VsP.ph (inn a b n) = Go.VsP.sF (fun j => Go.VsP.ph (a j) * Go.VsP.ph (b j)) n
  | 0 => rfl
  | n + 1 => by
    have ih := ph_inn a b n
    show Go.VsP.ph ((inn a b n + a n * b n % ell) % ell) = Go.VsP.sF _ n + _
    rw [ph_addm, ph_mulm, ih]
theorem ph_psum (K P : Nat → Nat) : ∀ n, Go.VsP.ph (psum K P n) = Go.VsP.sF (fun j => Go.VsP.ph (P j) * Go.VsP.ph (K j)) n
  | 0 => rfl
  | n + 1 => by
    have ih := ph_psum K P n
    show Go.VsP.ph ((psum K P n + P n * K n % ell) % ell) = Go.VsP.sF _ n + _
    rw [ph_addm, ph_mulm, ih]
theorem sF_odd (f : Nat → Go.VsP.Fq) : ∀ m, Go.VsP.sF f (1 + 2 * m) = f 0 + Go.VsP.sF (fun j => f (1 + 2 * j) + f (1 + 2 * j + 1)) m
  | 0 => by
    show (0 : Go.VsP.Fq) + f 0 = f 0 + 0
    generalize f 0 = x
    grobner
  | m + 1 => by
    have ih := sF_odd f m
    show Go.VsP.sF f (1 + 2 * m) + f (1 + 2 * m) + f (1 + 2 * m + 1) = f 0 + (Go.VsP.sF _ m + _)
    rw [ih]
    generalize f 0 = x
    generalize Go.VsP.sF (fun j => f (1 + 2 * j) + f (1 + 2 * j + 1)) m = s
    dsimp only
    generalize f (1 + 2 * m) = y
    generalize f (1 + 2 * m + 1) = z
    clear ih
    grobner
theorem ph_image (q : Nat) (g h a b : Nat → Nat) (m : Nat) : Go.VsP.ph (psum (tK (inn a b m) a b) (tK q g h) (1 + 2 * m)) = Go.VsP.ph q * Go.VsP.sF (fun j => Go.VsP.ph (a j) * Go.VsP.ph (b j)) m + Go.VsP.sF (fun j => Go.VsP.ph (g j) * Go.VsP.ph (a j) + Go.VsP.ph (h j) * Go.VsP.ph (b j)) m := by
  rw [ph_psum, sF_odd, ← ph_inn]
  congr 1
  refine Go.VsP.sF_congr fun j _ => ?_
  rw [tK_a, tK_a, tK_b, tK_b]
theorem ph_fgo (u v : Nat) (g : Nat → Nat) (m j : Nat) : Go.VsP.ph (fgo u v g m j) = Go.VsP.ph u * Go.VsP.ph (g j) + Go.VsP.ph v * Go.VsP.ph (g (m + j)) := by
  unfold fgo; rw [ph_addm, ph_mulm, ph_mulm]
theorem ph_fe (u v : Nat) (g : Nat → Nat) (m j : Nat) : Go.VsP.ph (fe u v m g j) = Go.VsP.ph u * Go.VsP.ph (g j) + Go.VsP.ph v * Go.VsP.ph (g (m + j)) := by
  unfold fe; rw [ph_addm, ph_mulm, ph_mulm]
  generalize Go.VsP.ph u = a
  generalize Go.VsP.ph v = b
  generalize Go.VsP.ph (g j) = c
  generalize Go.VsP.ph (g (m + j)) = d
  grobner
theorem fac_sum (c q : Nat) (fg fh lo hi : Nat → Nat) : ∀ n, Go.VsP.ph (fac c q fg fh lo hi n) + Go.VsP.sF (fun j => (if j = 0 then 0 else Go.VsP.ph (lo j) * Go.VsP.ph (hi j) * Go.VsP.ph q + Go.VsP.ph (fg j) * Go.VsP.ph (lo j)) + Go.VsP.ph (fh j) * Go.VsP.ph (hi j)) n = Go.VsP.ph c
  | 0 => by
    show Go.VsP.ph c + 0 = _
    generalize Go.VsP.ph c = x
    grobner
  | n + 1 => by
    have ih := fac_sum c q fg fh lo hi n
    show Go.VsP.ph (fac c q fg fh lo hi (n + 1)) + (Go.VsP.sF _ n + ((if n = 0 then 0 else _) + _)) = _
    rw [← ih]
    generalize Go.VsP.sF (fun j => (if j = 0 then 0 else Go.VsP.ph (lo j) * Go.VsP.ph (hi j) * Go.VsP.ph q + Go.VsP.ph (fg j) * Go.VsP.ph (lo j)) + Go.VsP.ph (fh j) * Go.VsP.ph (hi j)) n = s
    by_cases hn : n = 0
    · rw [fac, if_pos hn, if_pos hn, ph_sb, ph_mulm]
      generalize Go.VsP.ph (fac c q fg fh lo hi n) = a
      generalize Go.VsP.ph (fh n) = b
      generalize Go.VsP.ph (hi n) = d
      clear ih hn
      grobner
    · rw [fac, if_neg hn, if_neg hn, ph_sb, ph_sb, ph_sb, ph_mulm, ph_mulm, ph_mulm, ph_mulm]
      generalize Go.VsP.ph (fac c q fg fh lo hi n) = a
      generalize Go.VsP.ph (fh n) = b
      generalize Go.VsP.ph (hi n) = d
      generalize Go.VsP.ph (fg n) = e
      generalize Go.VsP.ph (lo n) = f
      generalize Go.VsP.ph q = r
      clear ih hn
      grobner
theorem first_sum (x : Go.VsP.Fq) (q : Go.VsP.Fq) (fg fh lo hi : Nat → Go.VsP.Fq) : ∀ n, Go.VsP.sF (fun j => (if j = 0 then x else lo j) * hi j * q + (fg j * (if j = 0 then x else lo j) + fh j * hi j)) (n + 1) = x * (fg 0 + hi 0 * q) + Go.VsP.sF (fun j => (if j = 0 then 0 else lo j * hi j * q + fg j * lo j) + fh j * hi j) (n + 1)
  | 0 => by
    show (0 : Go.VsP.Fq) + ((if (0 : Nat) = 0 then x else lo 0) * hi 0 * q + (fg 0 * (if (0 : Nat) = 0 then x else lo 0) + fh 0 * hi 0)) = x * (fg 0 + hi 0 * q) + (0 + ((if (0 : Nat) = 0 then 0 else lo 0 * hi 0 * q + fg 0 * lo 0) + fh 0 * hi 0))
    simp only [if_true]
    generalize hi 0 = a
    generalize fg 0 = b
    generalize fh 0 = c
    grobner
  | n + 1 => by
    have ih := first_sum x q fg fh lo hi n
    show Go.VsP.sF _ (n + 1) + ((if n + 1 = 0 then x else lo (n + 1)) * hi (n + 1) * q + (fg (n + 1) * (if n + 1 = 0 then x else lo (n + 1)) + fh (n + 1) * hi (n + 1))) = x * (fg 0 + hi 0 * q) + (Go.VsP.sF _ (n + 1) + ((if n + 1 = 0 then 0 else lo (n + 1) * hi (n + 1) * q + fg (n + 1) * lo (n + 1)) + fh (n + 1) * hi (n + 1)))
    rw [ih, if_neg (Nat.succ_ne_zero n), if_neg (Nat.succ_ne_zero n)]
    generalize Go.VsP.sF (fun j => (if j = 0 then 0 else lo j * hi j * q + fg j * lo j) + fh j * hi j) (n + 1) = s
    generalize fg 0 + hi 0 * q = t
    generalize lo (n + 1) = a
    generalize hi (n + 1) = b
    generalize fg (n + 1) = d
    generalize fh (n + 1) = e
    clear ih
    grobner
noncomputable def fga (p q l r u : Nat) (g h lo hi : Nat → Nat) (m : Nat) : Nat → Nat := fa0 (fac (fc0 l r p u) q (fgo (linv u) u g m) (fgo u (linv u) h m) lo hi m * linv (fkk q (fgo (linv u) u g m) hi) % ell) lo
theorem ph_fc0 (l r p u : Nat) : Go.VsP.ph (fc0 l r p u) = Go.VsP.ph (pf1 p l r u) := by
  unfold fc0 pf1
  rw [ph_addm, ph_addm, ph_mulm, ph_mulm, ph_mulm, ph_mulm, ph_addm, ph_addm, ph_mulm, ph_mulm, ph_mulm, ph_mulm]
  generalize Go.VsP.ph l = a
  generalize Go.VsP.ph u = b
  generalize Go.VsP.ph p = c
  generalize Go.VsP.ph r = d
  generalize Go.VsP.ph (linv u) = e
  grobner
theorem forged_right (p q l r u : Nat) (g h lo hi : Nat → Nat) {m : Nat} (hm : 0 < m) (hk : fkk q (fgo (linv u) u g m) hi % ell ≠ 0) :
    psum (tK (inn (fga p q l r u g h lo hi m) hi m) (fga p q l r u g h lo hi m) hi) (tK q (fe (linv u) u m g) (fe u (linv u) m h)) (1 + 2 * m) % ell = pf1 p l r u % ell := by
  refine Go.VsP.ph_eq.1 ?_
  rw [← ph_fc0, ph_image]
  have ha : ∀ j, Go.VsP.ph (fga p q l r u g h lo hi m j) = if j = 0 then Go.VsP.ph (fac (fc0 l r p u) q (fgo (linv u) u g m) (fgo u (linv u) h m) lo hi m) * Go.VsP.ph (linv (fkk q (fgo (linv u) u g m) hi)) else Go.VsP.ph (lo j) := fun j => by
    unfold fga fa0
    split
    · exact ph_mulm _ _
    · rfl
  have hx := ph_linv hk
  have hkk : Go.VsP.ph (fkk q (fgo (linv u) u g m) hi) = Go.VsP.ph (fgo (linv u) u g m 0) + Go.VsP.ph (hi 0) * Go.VsP.ph q := by unfold fkk; rw [ph_addm, ph_mulm]
  obtain ⟨n, rfl⟩ : ∃ n, m = n + 1 := ⟨m - 1, by omega⟩
  have hf := fac_sum (fc0 l r p u) q (fgo (linv u) u g (n + 1)) (fgo u (linv u) h (n + 1)) lo hi (n + 1)
  generalize hX : Go.VsP.ph (fac (fc0 l r p u) q (fgo (linv u) u g (n + 1)) (fgo u (linv u) h (n + 1)) lo hi (n + 1)) * Go.VsP.ph (linv (fkk q (fgo (linv u) u g (n + 1)) hi)) = X at ha
  have e1 : Go.VsP.ph q * Go.VsP.sF (fun j => Go.VsP.ph (fga p q l r u g h lo hi (n + 1) j) * Go.VsP.ph (hi j)) (n + 1) + Go.VsP.sF (fun j => Go.VsP.ph (fe (linv u) u (n + 1) g j) * Go.VsP.ph (fga p q l r u g h lo hi (n + 1) j) + Go.VsP.ph (fe u (linv u) (n + 1) h j) * Go.VsP.ph (hi j)) (n + 1) = Go.VsP.sF (fun j => (if j = 0 then X else Go.VsP.ph (lo j)) * Go.VsP.ph (hi j) * Go.VsP.ph q + (Go.VsP.ph (fgo (linv u) u g (n + 1) j) * (if j = 0 then X else Go.VsP.ph (lo j)) + Go.VsP.ph (fgo u (linv u) h (n + 1) j) * Go.VsP.ph (hi j))) (n + 1) := by
    have key : ∀ (N : Nat) (f k : Nat → Go.VsP.Fq) (c : Go.VsP.Fq), c * Go.VsP.sF f N + Go.VsP.sF k N = Go.VsP.sF (fun j => f j * c + k j) N := by
      intro N f k c
      induction N with
      | zero =>
        show c * 0 + 0 = (0 : Go.VsP.Fq)
        clear hk hx hkk hf hX ha
        grobner
      | succ N ih =>
        show c * (Go.VsP.sF f N + f N) + (Go.VsP.sF k N + k N) = Go.VsP.sF _ N + _
        rw [← ih]
        dsimp only
        generalize Go.VsP.sF f N = a
        generalize Go.VsP.sF k N = b
        generalize f N = d
        generalize k N = e
        clear ih hk hx hkk hf hX ha
        grobner
    rw [key]
    refine Go.VsP.sF_congr fun j _ => ?_
    rw [ha, ph_fe, ph_fe, ph_fgo, ph_fgo]
  rw [e1, first_sum, ← hf, ← hkk, ← hX]
  generalize Go.VsP.sF (fun j => (if j = 0 then 0 else Go.VsP.ph (lo j) * Go.VsP.ph (hi j) * Go.VsP.ph q + Go.VsP.ph (fgo (linv u) u g (n + 1) j) * Go.VsP.ph (lo j)) + Go.VsP.ph (fgo u (linv u) h (n + 1) j) * Go.VsP.ph (hi j)) (n + 1) = s
  generalize Go.VsP.ph (fkk q (fgo (linv u) u g (n + 1)) hi) = a at hx
  generalize Go.VsP.ph (linv (fkk q (fgo (linv u) u g (n + 1)) hi)) = b at hx
  generalize Go.VsP.ph (fac (fc0 l r p u) q (fgo (linv u) u g (n + 1)) (fgo u (linv u) h (n + 1)) lo hi (n + 1)) = c
  clear e1 hf hkk ha hX hk
  grobner
end
section
theorem dom_ell : Go.VsP.Dom := Go.VsP.dom_of fun x h => ⟨linv x, linv_mul h⟩
theorem sF_two (f : Nat → Go.VsP.Fq) (m : Nat) : Go.VsP.sF f (2 * m) = Go.VsP.sF (fun j => f j + f (m + j)) m := by
  have key : ∀ n k, Go.VsP.sF f (n + k) = Go.VsP.sF f n + Go.VsP.sF (fun j => f (n + j)) k := by
    intro n k
    induction k with
    | zero => show Go.VsP.sF f n = Go.VsP.sF f n + 0; generalize Go.VsP.sF f n = x; grobner
    | succ k ih =>
      show Go.VsP.sF f (n + k) + f (n + k) = Go.VsP.sF f n + (Go.VsP.sF _ k + f (n + k))
      rw [ih]
      generalize Go.VsP.sF f n = a
      generalize Go.VsP.sF (fun j => f (n + j)) k = b
      generalize f (n + k) = c
      clear ih
      grobner
  have add : ∀ (f k : Nat → Go.VsP.Fq) N, Go.VsP.sF f N + Go.VsP.sF k N = Go.VsP.sF (fun j => f j + k j) N := by
    intro f k N
    induction N with
    | zero => show (0 : Go.VsP.Fq) + 0 = 0; grobner
    | succ N ih =>
      show (Go.VsP.sF f N + f N) + (Go.VsP.sF k N + k N) = Go.VsP.sF _ N + _
      rw [← ih]
      dsimp only
      generalize Go.VsP.sF f N = a
      generalize Go.VsP.sF k N = b
      generalize f N = d
      generalize k N = e
      clear ih
      grobner
  rw [show 2 * m = m + m by omega, key, add]
theorem dif_true {f : Nat → Nat} : ∀ {T : Nat}, dif f T = true → ∃ j, j < T ∧ f j % ell ≠ 0
  | 0, h => by cases h
  | T + 1, h => by
    simp only [dif, Bool.or_eq_true, Bool.not_eq_true', decide_eq_false_iff_not] at h
    rcases h with h | h
    · obtain ⟨j, a, b⟩ := dif_true h
      exact ⟨j, by omega, b⟩
    · exact ⟨T, by omega, h⟩
theorem dif_false {f : Nat → Nat} : ∀ {T : Nat}, dif f T = false → ∀ j, j < T → f j % ell = 0
  | 0, _, j, hj => absurd hj (by omega)
  | T + 1, h, j, hj => by
    simp only [dif, Bool.or_eq_false_iff, Bool.not_eq_false', decide_eq_true_eq] at h
    rcases Nat.lt_or_ge j T with h' | h'
    · exact dif_false h.1 j h'
    · obtain rfl : j = T := by omega
      exact h.2
theorem ph_kac (x : Nat → Nat) (D : Nat → Nat → Nat) (j : Nat) : Go.VsP.ph (kac x D 3 j) = Go.VsP.ph (x 0) * Go.VsP.ph (D 0 j) + Go.VsP.ph (x 1) * Go.VsP.ph (D 1 j) + Go.VsP.ph (x 2) * Go.VsP.ph (D 2 j) := by
  rw [kac, kac, kac, kac, ph_addm, ph_addm, ph_addm, ph_mulm, ph_mulm, ph_mulm, Go.VsP.ph_zero]
  generalize Go.VsP.ph (x 0) * Go.VsP.ph (D 0 j) = a
  generalize Go.VsP.ph (x 1) * Go.VsP.ph (D 1 j) = b
  generalize Go.VsP.ph (x 2) * Go.VsP.ph (D 2 j) = c
  grobner
theorem if_swap (w k : Nat) : (if w = k then (1 : Go.VsP.Fq) else 0) = if k = w then 1 else 0 := by
  by_cases h : w = k
  · rw [if_pos h, if_pos h.symm]
  · rw [if_neg h, if_neg (Ne.symm h)]
theorem wnt_ph {w k : Nat} (hw : w < 3) (hk : k < 3) : Go.VsP.ph (wnt w k) = if k = w then 1 else 0 := by
  unfold wnt; split <;> rfl
theorem one_ne : ¬ (0 : Go.VsP.Fq) = 1 := by decide
theorem ph_lsq {u : Nat} (h : u % ell ≠ 0) : Go.VsP.ph (linv (u * u % ell)) = Go.VsP.ph (linv u) * Go.VsP.ph (linv u) := by
  have a := ph_linv h
  have n : u * u % ell % ell ≠ 0 := fun e => by
    have z := ph_z.2 e
    rw [ph_mulm] at z
    refine one_ne ?_
    generalize Go.VsP.ph u = x at a z
    generalize Go.VsP.ph (linv u) = y at a
    clear e h
    grobner
  have b := ph_linv n
  rw [ph_mulm] at b
  generalize Go.VsP.ph (linv (u * u % ell)) = z at b ⊢
  generalize Go.VsP.ph u = x at a b
  generalize Go.VsP.ph (linv u) = y at a ⊢
  clear n h
  grobner
theorem ph_rel4 (u : Nat) (hu : u % ell ≠ 0) (L P R D : Nat → Nat) (j : Nat) : Go.VsP.ph (rel4 u L P R D j) = Go.VsP.ph u * Go.VsP.ph u * Go.VsP.ph (L j) + Go.VsP.ph (P j) + Go.VsP.ph (linv u) * Go.VsP.ph (linv u) * Go.VsP.ph (R j) - Go.VsP.ph (D j) := by
  unfold rel4
  rw [ph_sb, ph_addm, ph_addm, ph_mulm, ph_mulm, ph_mulm, ph_lsq hu]
theorem sq_0 (u : Nat) : sqf u 0 = u * u % ell := rfl
theorem sq_1 (u : Nat) : sqf u 1 = 1 := rfl
theorem sq_2 (u : Nat) : sqf u 2 = linv (u * u % ell) := rfl
section
variable {U : Nat → Nat} (nz : ∀ j, j < 4 → U j % ell ≠ 0) (un : ∀ j k, j < 4 → k < 4 → j ≠ k → U j * U j % ell ≠ U k * U k % ell)
include nz
theorem sq_inv : ∀ i, i < 4 → (Go.VsP.ph (U i) * Go.VsP.ph (U i)) * (Go.VsP.ph (linv (U i)) * Go.VsP.ph (linv (U i))) = 1 := fun i hi => by
  have a := ph_linv (nz i hi)
  generalize Go.VsP.ph (U i) = x at a ⊢
  generalize Go.VsP.ph (linv (U i)) = y at a ⊢
  clear nz hi
  grobner
omit nz
include un
theorem sq_unl : ∀ i j, i < 4 → j < 4 → i ≠ j → Go.VsP.ph (U i) * Go.VsP.ph (U i) ≠ Go.VsP.ph (U j) * Go.VsP.ph (U j) := fun i j hi hj h e => by
  rw [← Go.VsP.ph_mul, ← Go.VsP.ph_mul] at e
  exact un i j hi hj h (Go.VsP.ph_eq.1 e)
include nz
theorem turned_nons : ∀ wh, wh < 3 → ∀ x, Go.VsP.Sol (fun c j => Go.VsP.ph (aug (fun c j => sqf (U j) c) (wnt wh) c j)) 0 x → x 0 = 0 ∧ x 1 = 0 ∧ x 2 = 0 := fun wh hw x hx => by
  refine Go.VsP.nons dom_ell (s := fun j => Go.VsP.ph (U j) * Go.VsP.ph (U j)) (t := fun j => Go.VsP.ph (linv (U j)) * Go.VsP.ph (linv (U j))) (fun i hi => sq_inv nz i (by omega)) (fun i j hi hj h => sq_unl un i j (by omega) (by omega) h) (fun j hj => ?_) (fun j hj => ?_) (fun j hj => ?_) x hx
  · show Go.VsP.ph (if j < 3 then _ else _) = _
    rw [if_pos hj]
    show Go.VsP.ph (sqf (U j) 0) = _
    rw [sq_0]
    exact ph_mulm _ _
  · show Go.VsP.ph (if j < 3 then _ else _) = _
    rw [if_pos hj]
    show Go.VsP.ph (sqf (U j) 1) = _
    rw [sq_1]
    rfl
  · show Go.VsP.ph (if j < 3 then _ else _) = _
    rw [if_pos hj]
    show Go.VsP.ph (sqf (U j) 2) = _
    rw [sq_2]
    exact ph_lsq (nz j (by omega))
variable {p q l r m : Nat} {g h : Nat → Nat} {A B : Nat → Nat → Nat}
  (hn : ∀ i, i < 4 → psum (tK (inn (A i) (B i) m) (A i) (B i)) (tK q (fe (linv (U i)) (U i) m g) (fe (U i) (linv (U i)) m h)) (1 + 2 * m) % ell = pf1 p l r (U i) % ell)
  {x : Nat → Nat → Nat} (hx : ∀ wh, wh < 3 → Go.VsP.Sol (fun c j => Go.VsP.ph (aug (fun c j => sqf (U j) c) (wnt wh) c j)) 1 (fun j => Go.VsP.ph (x wh j)))
include hn hx
theorem the_four : Go.VsP.Four m (Go.VsP.ph q) (Go.VsP.ph l) (Go.VsP.ph p) (Go.VsP.ph r) (fun j => Go.VsP.ph (g j)) (fun j => Go.VsP.ph (h j)) (fun i => Go.VsP.ph (U i) * Go.VsP.ph (U i)) (fun i => Go.VsP.ph (linv (U i)) * Go.VsP.ph (linv (U i))) (fun i j => Go.VsP.ph (tld (U i) (A i) (B i) m j)) (fun w i => Go.VsP.ph (x w i)) (fun w j => Go.VsP.ph (kac (x w) (fun i => tld (U i) (A i) (B i) m) 3 j)) := by
  refine ⟨sq_inv nz, sq_unl un, fun i hi => ?_, fun w hw => ?_, fun w hw => ?_, fun w hw => ?_, fun w j hw hj => ph_kac _ _ _⟩
  · have e := Go.VsP.ph_eq.2 (hn i hi)
    rw [ph_image] at e
    have e2 : Go.VsP.ph (pf1 p l r (U i)) = Go.VsP.ph l * (Go.VsP.ph (U i) * Go.VsP.ph (U i)) + Go.VsP.ph p + Go.VsP.ph r * (Go.VsP.ph (linv (U i)) * Go.VsP.ph (linv (U i))) := by
      unfold pf1
      rw [ph_addm, ph_addm, ph_mulm, ph_mulm, ph_mulm, ph_mulm]
    rw [e2] at e
    rw [← e]
    show Go.VsP.ph (tld (U i) (A i) (B i) m 0) * _ + _ = _
    rw [tld_0, ph_inn]
    have key : Go.VsP.sF (fun j => Go.VsP.ph (tld (U i) (A i) (B i) m (1 + j)) * Go.VsP.ph (g j) + Go.VsP.ph (tld (U i) (A i) (B i) m (1 + m + j)) * Go.VsP.ph (g (m + j)) + Go.VsP.ph (tld (U i) (A i) (B i) m (1 + 2 * m + j)) * Go.VsP.ph (h j) + Go.VsP.ph (tld (U i) (A i) (B i) m (1 + 3 * m + j)) * Go.VsP.ph (h (m + j))) m = Go.VsP.sF (fun j => Go.VsP.ph (fe (linv (U i)) (U i) m g j) * Go.VsP.ph (A i j) + Go.VsP.ph (fe (U i) (linv (U i)) m h j) * Go.VsP.ph (B i j)) m := by
      refine Go.VsP.sF_congr fun j hj => ?_
      have t1 := tld_1 (U i) (A i) (B i) hj
      have t2 := tld_2 (U i) (A i) (B i) hj
      have t3 := tld_3 (U i) (A i) (B i) hj
      have t4 := tld_4 (U i) (A i) (B i) hj
      rw [Nat.zero_mul, Nat.add_zero] at t1
      rw [Nat.one_mul] at t2
      rw [t1, t2, t3, t4, ph_mulm, ph_mulm, ph_mulm, ph_mulm, ph_fe, ph_fe]
      generalize Go.VsP.ph (U i) = a
      generalize Go.VsP.ph (linv (U i)) = b
      generalize Go.VsP.ph (A i j) = c
      generalize Go.VsP.ph (B i j) = d
      generalize Go.VsP.ph (g j) = e1
      generalize Go.VsP.ph (g (m + j)) = e2'
      generalize Go.VsP.ph (h j) = e3
      generalize Go.VsP.ph (h (m + j)) = e4
      clear t1 t2 t3 t4 e e2 hn hx nz un
      grobner
    rw [key]
    generalize Go.VsP.sF (fun j => Go.VsP.ph (A i j) * Go.VsP.ph (B i j)) m = a
    generalize Go.VsP.sF (fun j => Go.VsP.ph (fe (linv (U i)) (U i) m g j) * Go.VsP.ph (A i j) + Go.VsP.ph (fe (U i) (linv (U i)) m h j) * Go.VsP.ph (B i j)) m = b
    generalize Go.VsP.ph q = c
    clear key e e2 hn hx nz un
    grobner
  · have e : Go.VsP.ph (sqf (U 0) 0) * Go.VsP.ph (x w 0) + Go.VsP.ph (sqf (U 1) 0) * Go.VsP.ph (x w 1) + Go.VsP.ph (sqf (U 2) 0) * Go.VsP.ph (x w 2) - 1 * Go.VsP.ph (wnt w 0) = 0 := hx w hw 0 (by decide)
    rw [sq_0, sq_0, sq_0, ph_mulm, ph_mulm, ph_mulm, wnt_ph hw (by decide)] at e
    rw [show (if w = 0 then (1 : Go.VsP.Fq) else 0) = if 0 = w then 1 else 0 from if_swap w 0]
    generalize (if 0 = w then (1 : Go.VsP.Fq) else 0) = z at e ⊢
    generalize Go.VsP.ph (U 0) = a at *
    generalize Go.VsP.ph (U 1) = b at *
    generalize Go.VsP.ph (U 2) = c at *
    generalize Go.VsP.ph (x w 0) = a' at *
    generalize Go.VsP.ph (x w 1) = b' at *
    generalize Go.VsP.ph (x w 2) = c' at *
    clear hn hx nz un
    grobner
  · have e : Go.VsP.ph (sqf (U 0) 1) * Go.VsP.ph (x w 0) + Go.VsP.ph (sqf (U 1) 1) * Go.VsP.ph (x w 1) + Go.VsP.ph (sqf (U 2) 1) * Go.VsP.ph (x w 2) - 1 * Go.VsP.ph (wnt w 1) = 0 := hx w hw 1 (by decide)
    rw [sq_1, sq_1, sq_1, Go.VsP.ph_one, wnt_ph hw (by decide)] at e
    rw [show (if w = 1 then (1 : Go.VsP.Fq) else 0) = if 1 = w then 1 else 0 from if_swap w 1]
    generalize (if 1 = w then (1 : Go.VsP.Fq) else 0) = z at e ⊢
    generalize Go.VsP.ph (x w 0) = a' at *
    generalize Go.VsP.ph (x w 1) = b' at *
    generalize Go.VsP.ph (x w 2) = c' at *
    clear hn hx nz un
    grobner
  · have e : Go.VsP.ph (sqf (U 0) 2) * Go.VsP.ph (x w 0) + Go.VsP.ph (sqf (U 1) 2) * Go.VsP.ph (x w 1) + Go.VsP.ph (sqf (U 2) 2) * Go.VsP.ph (x w 2) - 1 * Go.VsP.ph (wnt w 2) = 0 := hx w hw 2 (by decide)
    rw [sq_2, sq_2, sq_2, ph_lsq (nz 0 (by decide)), ph_lsq (nz 1 (by decide)), ph_lsq (nz 2 (by decide)), wnt_ph hw (by decide)] at e
    rw [show (if w = 2 then (1 : Go.VsP.Fq) else 0) = if 2 = w then 1 else 0 from if_swap w 2]
    generalize (if 2 = w then (1 : Go.VsP.Fq) else 0) = z at e ⊢
    generalize Go.VsP.ph (linv (U 0)) = a at *
    generalize Go.VsP.ph (linv (U 1)) = b at *
    generalize Go.VsP.ph (linv (U 2)) = c at *
    generalize Go.VsP.ph (x w 0) = a' at *
    generalize Go.VsP.ph (x w 1) = b' at *
    generalize Go.VsP.ph (x w 2) = c' at *
    clear hn hx nz un
    grobner
end
section
variable {U : Nat → Nat} (nz : ∀ j, j < 4 → U j % ell ≠ 0) (un : ∀ j k, j < 4 → k < 4 → j ≠ k → U j * U j % ell ≠ U k * U k % ell)
variable {p q l r m : Nat} {g h : Nat → Nat} {A B : Nat → Nat → Nat}
  (hn : ∀ i, i < 4 → psum (tK (inn (A i) (B i) m) (A i) (B i)) (tK q (fe (linv (U i)) (U i) m g) (fe (U i) (linv (U i)) m h)) (1 + 2 * m) % ell = pf1 p l r (U i) % ell)
  {x : Nat → Nat → Nat} (hx : ∀ wh, wh < 3 → Go.VsP.Sol (fun c j => Go.VsP.ph (aug (fun c j => sqf (U j) c) (wnt wh) c j)) 1 (fun j => Go.VsP.ph (x wh j)))
noncomputable def kn4 (U : Nat → Nat) (A B : Nat → Nat → Nat) (m : Nat) (x : Nat → Nat → Nat) (w : Nat) : Nat → Nat := kac (x w) (fun i => tld (U i) (A i) (B i) m) 3
noncomputable def rl4 (U : Nat → Nat) (A B : Nat → Nat → Nat) (m : Nat) (x : Nat → Nat → Nat) : Nat → Nat := rel4 (U 3) (kn4 U A B m x 0) (kn4 U A B m x 1) (kn4 U A B m x 2) (tld (U 3) (A 3) (B 3) m)
include nz un hn hx
theorem join_image (hd : dif (rl4 U A B m x) (1 + 4 * m) = false) :
    psum (tK (inn (fun j => kn4 U A B m x 1 (1 + j)) (fun j => kn4 U A B m x 1 (1 + 2 * m + j)) (2 * m)) (fun j => kn4 U A B m x 1 (1 + j)) (fun j => kn4 U A B m x 1 (1 + 2 * m + j))) (tK q g h) (1 + 2 * (2 * m)) % ell = p % ell := by
  have F := the_four nz un hn hx
  have hz := dif_false hd
  have hz' : ∀ j, j < 1 + 4 * m → Go.VsP.ph (U 3) * Go.VsP.ph (U 3) * Go.VsP.ph (kn4 U A B m x 0 j) + Go.VsP.ph (kn4 U A B m x 1 j) + Go.VsP.ph (linv (U 3)) * Go.VsP.ph (linv (U 3)) * Go.VsP.ph (kn4 U A B m x 2 j) - Go.VsP.ph (tld (U 3) (A 3) (B 3) m j) = 0 := fun j hj => by
    rw [← ph_rel4 (U 3) (nz 3 (by decide))]
    exact ph_z.2 (hz j hj)
  have kab := Go.VsP.Four.known_ab dom_ell (u := fun i => Go.VsP.ph (U i)) (v := fun i => Go.VsP.ph (linv (U i))) F (fun i hi => ph_linv (nz i hi)) (A := fun i j => Go.VsP.ph (A i j)) (B := fun i j => Go.VsP.ph (B i j)) (fun i hi => ph_inn _ _ _) (fun i j hi hj => by
      have t1 := tld_1 (U i) (A i) (B i) hj
      rw [Nat.zero_mul, Nat.add_zero] at t1
      rw [t1, ph_mulm]) (fun i j hi hj => by
      have t2 := tld_2 (U i) (A i) (B i) hj
      rw [Nat.one_mul] at t2
      rw [t2, ph_mulm]) (fun i j hi hj => by rw [tld_3 (U i) (A i) (B i) hj, ph_mulm]) (fun i j hi hj => by rw [tld_4 (U i) (A i) (B i) hj, ph_mulm]) hz'
  have im := F.image
  refine Go.VsP.ph_eq.1 ?_
  rw [ph_image, ← im, sF_two, sF_two]
  show _ = Go.VsP.ph (kn4 U A B m x 1 0) * Go.VsP.ph q + Go.VsP.sF _ m
  have kab' : Go.VsP.ph (kn4 U A B m x 1 0) = _ := kab
  rw [kab']
  have e1 : Go.VsP.sF (fun j => Go.VsP.ph (kn4 U A B m x 1 (1 + j)) * Go.VsP.ph (kn4 U A B m x 1 (1 + 2 * m + j)) + Go.VsP.ph (kn4 U A B m x 1 (1 + (m + j))) * Go.VsP.ph (kn4 U A B m x 1 (1 + 2 * m + (m + j)))) m = Go.VsP.sF (fun j => Go.VsP.ph (kac (x 1) (fun i => tld (U i) (A i) (B i) m) 3 (1 + j)) * Go.VsP.ph (kac (x 1) (fun i => tld (U i) (A i) (B i) m) 3 (1 + 2 * m + j)) + Go.VsP.ph (kac (x 1) (fun i => tld (U i) (A i) (B i) m) 3 (1 + m + j)) * Go.VsP.ph (kac (x 1) (fun i => tld (U i) (A i) (B i) m) 3 (1 + 3 * m + j))) m := by
    refine Go.VsP.sF_congr fun j _ => ?_
    rw [show 1 + (m + j) = 1 + m + j by omega, show 1 + 2 * m + (m + j) = 1 + 3 * m + j by omega]
    rfl
  rw [e1]
  generalize Go.VsP.sF (fun j => Go.VsP.ph (kac (x 1) (fun i => tld (U i) (A i) (B i) m) 3 (1 + j)) * Go.VsP.ph (kac (x 1) (fun i => tld (U i) (A i) (B i) m) 3 (1 + 2 * m + j)) + Go.VsP.ph (kac (x 1) (fun i => tld (U i) (A i) (B i) m) 3 (1 + m + j)) * Go.VsP.ph (kac (x 1) (fun i => tld (U i) (A i) (B i) m) 3 (1 + 3 * m + j))) m = s
  have e2 : Go.VsP.sF (fun j => Go.VsP.ph (g j) * Go.VsP.ph (kn4 U A B m x 1 (1 + j)) + Go.VsP.ph (h j) * Go.VsP.ph (kn4 U A B m x 1 (1 + 2 * m + j)) + (Go.VsP.ph (g (m + j)) * Go.VsP.ph (kn4 U A B m x 1 (1 + (m + j))) + Go.VsP.ph (h (m + j)) * Go.VsP.ph (kn4 U A B m x 1 (1 + 2 * m + (m + j))))) m = Go.VsP.sF (fun j => Go.VsP.ph (kn4 U A B m x 1 (1 + j)) * Go.VsP.ph (g j) + Go.VsP.ph (kn4 U A B m x 1 (1 + m + j)) * Go.VsP.ph (g (m + j)) + Go.VsP.ph (kn4 U A B m x 1 (1 + 2 * m + j)) * Go.VsP.ph (h j) + Go.VsP.ph (kn4 U A B m x 1 (1 + 3 * m + j)) * Go.VsP.ph (h (m + j))) m := by
    refine Go.VsP.sF_congr fun j _ => ?_
    rw [show 1 + (m + j) = 1 + m + j by omega, show 1 + 2 * m + (m + j) = 1 + 3 * m + j by omega]
    generalize Go.VsP.ph (g j) = a
    generalize Go.VsP.ph (g (m + j)) = b
    generalize Go.VsP.ph (h j) = c
    generalize Go.VsP.ph (h (m + j)) = d
    generalize Go.VsP.ph (kn4 U A B m x 1 (1 + j)) = a'
    generalize Go.VsP.ph (kn4 U A B m x 1 (1 + m + j)) = b'
    generalize Go.VsP.ph (kn4 U A B m x 1 (1 + 2 * m + j)) = c'
    generalize Go.VsP.ph (kn4 U A B m x 1 (1 + 3 * m + j)) = d'
    clear e1 kab kab' im hz hz' F hd hx hn nz un
    grobner
  refine (congrArg (fun z => Go.VsP.ph q * s + z) e2).trans ?_
  generalize Go.VsP.ph q = a
  refine congrArg (fun z => z + _) ?_
  clear e1 e2 kab kab' im hz hz' F hd hx hn nz un
  grobner
theorem join_relation : Go.VsP.dot m (Go.VsP.ph q) (fun j => Go.VsP.ph (g j)) (fun j => Go.VsP.ph (h j)) (fun j => Go.VsP.ph (rl4 U A B m x j)) = 0 := by
  have F := the_four nz un hn hx
  have e := F.relation
  refine Eq.trans (Go.VsP.dot_congr _ _ _ _ fun j _ => ?_) e
  exact ph_rel4 (U 3) (nz 3 (by decide)) _ _ _ _ j
end
end
end Go.Vs.Tryd
namespace Go.Vs.Tryd
open Go.Proofs
variable {G : Nat → List V}
set_option linter.unusedSimpArgs false
attribute [local go_sem] lenO_nils lenO_sl sliceAtV Int.sub_zero List.length_append List.all_append ge_iff_le gt_iff_lt Int.natCast_nonneg Int.toNat_natCast Nat.mul_one b_and_ll b_shr_ll b_mul_ll b_add_ll b_or_ll b_shl_ll pick_ll pick_lc pick_bb driveS stopV Option.isSome_some Option.isSome_none Kind.m Kind.w Kind.g look_ro look_rw look_grow drive stepV exo expo evs fillV isNil nilKind eqV eqL optA optM sliceAtV ev kn ldc stc splice appV srcV lenV setd wantV exitV rvs rv one List.length_cons List.length_nil List.cons_append List.nil_append List.append_nil List.replicate List.getD_cons_zero List.getD_cons_succ List.set_cons_zero List.set_cons_succ List.getElem?_cons_zero List.getElem?_cons_succ List.getElem?_nil List.take_succ_cons List.take_zero List.take_nil List.drop_succ_cons List.drop_zero List.drop_nil List.all_cons List.all_nil List.any_cons List.any_nil Bool.and_true Bool.true_and Bool.and_self Option.map_some Option.map_none Option.bind_some Option.some.injEq Nat.add_zero Nat.zero_add Int.toNat_zero Int.toNat_one Int.zero_add Int.add_zero if_true if_false ite_true ite_false and_true true_and and_self ne_eq not_false_eq_true not_true_eq_false decide_true decide_false Bool.false_eq_true Bool.not_true Bool.not_false beq_self_eq_true BEq.rfl Bool.not_eq_true Nat.le_refl Int.le_refl Nat.zero_le List.foldl List.map_cons List.map_nil Prod.mk.injEq Int.cast_ofNat_Int Int.zero_le_ofNat b_add_cc b_add_cl b_add_lc b_mul_cc b_mul_cl b_mul_lc b_sub_cc b_sub_cl b_sub_lc b_and_cc b_and_cl b_and_lc b_or_cc b_or_cl b_or_lc b_xor_cc b_xor_cl b_xor_lc b_andNot_cc b_andNot_cl b_andNot_lc b_shr_cc b_shr_cl b_shr_lc b_shl_cc b_shl_cl b_shl_lc b_lss b_leq b_gtr b_geq b_add_i b_sub_i b_mul_i beq_cc beq_cl beq_lc beq_ll b_quo_i b_rem_i neg_u64 wrap_i64 driveD stepD idsAt idOf maskH_nil restore_nil restore_mask List.filterMap_nil List.filterMap_cons VOp.looks VOp.makes exA cells_agg cells_int cells_bool cells_str cells_nilp cells_ptr cells_glob cells_nils cells_sl cells_nilf cells_fn cells_nili cells_ifc known_agg known_tup known_int known_bool known_str known_nilp known_ptr known_glob known_nils known_sl known_nilf known_fn known_nili known_ifc known_unk one_agg one_tup one_int one_bool one_str one_nilp one_ptr one_glob one_nils one_sl one_nilf one_fn one_nili one_ifc asK_int asN_int asB_bool asS_str asG_agg asT_tup true_or or_true false_or or_false
attribute [local go_sem_proc] Nat.reduceAdd Nat.reduceSub Nat.reduceLeDiff Nat.reduceMul Nat.reduceLT Nat.reduceEqDiff Int.reduceLT Int.reduceLE Int.reduceAdd Int.reduceSub Int.reduceMul Int.reduceToNat reduceIte reduceCtorEq Nat.reduceBEq
section
attribute [local go_sem ↓] lc_len lc_take lc_drop lc_known lc_one lc_rens lc_cells lw_known lw_agg lw_asG scs_known scs_one scs_len lc_take_add lc_drop_add
attribute [local go_sem] lt_nat lt_natl lt_lnat lt_ll bool_tf bool_ft
set_option maxRecDepth 100000
set_option maxHeartbeats 2000000
theorem forge2_ (hG : G 0 = tbl) (p q l r u : Nat) (hp : p < 115792089237316195423570985008687907853269984665640564039457584007913129639936) (hq : q < 115792089237316195423570985008687907853269984665640564039457584007913129639936) (hl : l < 115792089237316195423570985008687907853269984665640564039457584007913129639936) (hr : r < 115792089237316195423570985008687907853269984665640564039457584007913129639936) (hu : u < 115792089237316195423570985008687907853269984665640564039457584007913129639936) (g h lo hi : Nat → Nat) (m : Nat) (hg : ∀ j, g j < 115792089237316195423570985008687907853269984665640564039457584007913129639936) (hh : ∀ j, h j < 115792089237316195423570985008687907853269984665640564039457584007913129639936) (hlo : ∀ j, lo j < 115792089237316195423570985008687907853269984665640564039457584007913129639936) (hhi : ∀ j, hi j < 115792089237316195423570985008687907853269984665640564039457584007913129639936) (hm : 0 < m) (hm4 : m ≤ 4) (cg ch cr : Cap) (Xr : List V) (er : ∀ i, i < m → (Xr.drop (m * 4 + i * 4)).take 4 = lc (hi i)) (rr : ∀ f, rens f Xr = Xr) {Q : V → Heap → Prop}
    (hF : fkk q (fgo (linv u) u g m) hi % ell = 0 → Q (.tup [.agg [.int .u64 (nl 0), .int .u64 (nl 0), .int .u64 (nl 0), .int .u64 (nl 0), .nils, .nils], .bool false]) [none, none, none, none])
    (hQ : fkk q (fgo (linv u) u g m) hi % ell ≠ 0 → ∀ k1 k2 c1 c2, k1.m = true → k2.m = true → Q (.tup [.agg (lc u ++ [.sl 4 0 m c1, .sl 5 0 m c2]), .bool true]) [none, none, none, none, some ⟨k1, scs m (fa0 (fac (fc0 l r p u) q (fgo (linv u) u g m) (fgo u (linv u) h m) lo hi m * linv (fkk q (fgo (linv u) u g m) hi) % ell) lo)⟩, some ⟨k2, scs m hi⟩]) :
    VCall Tryd.prog G 9 [crs4 p q (2 * m) cg ch, lw l, lw r, lw u, .sl 2 0 m (.grow 4), .sl 3 (m * 4) m cr] [some ⟨.ro, scs (2 * m) g⟩, some ⟨.ro, scs (2 * m) h⟩, some ⟨.ro, scs (2 * m) lo⟩, some ⟨.ro, Xr⟩] Q := by
  have hv : linv u < 115792089237316195423570985008687907853269984665640564039457584007913129639936 := Nat.lt_trans (linv_lt _) ell_lt
  refine vcall_body Tryd.func9 nm9 code9 nt9 ?_
  unfold crs4
  refine run_driveS 80 ?_
  simp only [go_sem, v9, v9_0, v9_1, jz4]
  refine run_call' rfl ?_
  simp only [go_sem, calV]
  refine invert' hG u hu ?_
  refine run_driveS 80 ?_
  simp only [go_sem, v9_2, jz4]
  have lc8 : ∀ a b : Nat, ∀ l : List V, (lc a ++ lc b ++ l).drop 4 = lc b ++ l := fun _ _ _ => rfl
  have lc4 : ∀ a b : Nat, ∀ l : List V, (lc a ++ lc b ++ l).take 4 = lc a := fun _ _ _ => rfl
  have lc9 : ∀ a b : Nat, ∀ x y : V, (lc a ++ lc b ++ [x, y]).drop 8 = [x, y] := fun _ _ _ _ => rfl
  have lc0 : ∀ a b : Nat, ∀ x y : V, (lc a ++ lc b ++ [x, y]).drop 9 = [y] := fun _ _ _ _ => rfl
  refine run_drw (by kernel_rfl) ?_
  refine drun_drive 40 (p := (_, _)) ?_
  simp only [go_sem, v9_3, jz4, lc8, lc4, lc9, lc0, restore, Option.join_some, maskH, List.mapIdx_cons, List.mapIdx_nil, List.contains_cons, List.contains_nil, Bool.or_false, Bool.or_true, Bool.false_or, Bool.true_or, Nat.reduceBEq]
  refine drun_call' ?_
  simp only [go_sem, calV, restore, Option.join_some, maskH, List.mapIdx_cons, List.mapIdx_nil, List.contains_cons, List.contains_nil, Bool.or_false, Bool.or_true, Bool.false_or, Bool.true_or, Nat.reduceBEq]
  refine mul' hG _ _ hl hu ?_
  refine drun_drive 40 (p := (_, _)) ?_
  simp only [go_sem, restore, Option.join_some, maskH, List.mapIdx_cons, List.mapIdx_nil, List.contains_cons, List.contains_nil, Bool.or_false, Bool.or_true, Bool.false_or, Bool.true_or, Nat.reduceBEq]
  refine drun_call' ?_
  simp only [go_sem, calV, restore, Option.join_some, maskH, List.mapIdx_cons, List.mapIdx_nil, List.contains_cons, List.contains_nil, Bool.or_false, Bool.or_true, Bool.false_or, Bool.true_or, Nat.reduceBEq]
  refine mul' hG _ _ (mod_lt _) hu ?_
  refine drun_drive 40 (p := (_, _)) ?_
  simp only [go_sem, restore, Option.join_some, maskH, List.mapIdx_cons, List.mapIdx_nil, List.contains_cons, List.contains_nil, Bool.or_false, Bool.or_true, Bool.false_or, Bool.true_or, Nat.reduceBEq]
  refine drun_call' ?_
  simp only [go_sem, calV, restore, Option.join_some, maskH, List.mapIdx_cons, List.mapIdx_nil, List.contains_cons, List.contains_nil, Bool.or_false, Bool.or_true, Bool.false_or, Bool.true_or, Nat.reduceBEq]
  refine add_ hG _ _ (mod_lt _) hp ?_
  refine drun_drive 40 (p := (_, _)) ?_
  simp only [go_sem, restore, Option.join_some, maskH, List.mapIdx_cons, List.mapIdx_nil, List.contains_cons, List.contains_nil, Bool.or_false, Bool.or_true, Bool.false_or, Bool.true_or, Nat.reduceBEq]
  refine drun_call' ?_
  simp only [go_sem, calV, restore, Option.join_some, maskH, List.mapIdx_cons, List.mapIdx_nil, List.contains_cons, List.contains_nil, Bool.or_false, Bool.or_true, Bool.false_or, Bool.true_or, Nat.reduceBEq]
  refine mul' hG _ _ hr hv ?_
  refine drun_drive 40 (p := (_, _)) ?_
  simp only [go_sem, restore, Option.join_some, maskH, List.mapIdx_cons, List.mapIdx_nil, List.contains_cons, List.contains_nil, Bool.or_false, Bool.or_true, Bool.false_or, Bool.true_or, Nat.reduceBEq]
  refine drun_call' ?_
  simp only [go_sem, calV, restore, Option.join_some, maskH, List.mapIdx_cons, List.mapIdx_nil, List.contains_cons, List.contains_nil, Bool.or_false, Bool.or_true, Bool.false_or, Bool.true_or, Nat.reduceBEq]
  refine mul' hG _ _ (mod_lt _) hv ?_
  refine drun_drive 40 (p := (_, _)) ?_
  simp only [go_sem, restore, Option.join_some, maskH, List.mapIdx_cons, List.mapIdx_nil, List.contains_cons, List.contains_nil, Bool.or_false, Bool.or_true, Bool.false_or, Bool.true_or, Nat.reduceBEq]
  refine drun_call' ?_
  simp only [go_sem, calV, restore, Option.join_some, maskH, List.mapIdx_cons, List.mapIdx_nil, List.contains_cons, List.contains_nil, Bool.or_false, Bool.or_true, Bool.false_or, Bool.true_or, Nat.reduceBEq]
  refine add_ hG _ _ (mod_lt _) (mod_lt _) ?_
  refine drun_drive 40 (p := (_, _)) ?_
  simp only [go_sem, restore, Option.join_some, maskH, List.mapIdx_cons, List.mapIdx_nil, List.contains_cons, List.contains_nil, Bool.or_false, Bool.or_true, Bool.false_or, Bool.true_or, Nat.reduceBEq]
  refine drun_end ?_
  refine run_driveS 80 ?_
  simp only [go_sem, v9_4, v9_5, v9_12]
  generalize hz6 : [V.int .u64 (nl 0), .int .u64 (nl 0), .int .u64 (nl 0), .int .u64 (nl 0), .nils, .nils] = z6
  have rz6 : ∀ f, rens f z6 = z6 := fun f => by subst hz6; rfl
  refine run_rename [0, 1, 2, 3, 4, 5, 6, 7, 8, 9, 10, 11, 12] (st' := ⟨[.unk, .unk, .unk, .unk, .sl 2 0 m (.grow 4), .sl 3 (m * 4) m cr, .ptr 4 0, .unk, .unk, .ptr 7 0, .unk, .unk, .ptr 8 0, .unk, .int .i64 m, .ptr 9 0, .ptr 10 0, dv 11 0, dv 12 0, .int .i64 (0 : Nat)] ++ List.replicate 144 .unk, [some ⟨.ro, scs (2 * m) g⟩, some ⟨.ro, scs (2 * m) h⟩, some ⟨.ro, scs (2 * m) lo⟩, some ⟨.ro, Xr⟩, some ⟨.rw, lc p ++ lc q ++ [.sl 0 0 (2 * m) cg, .sl 1 0 (2 * m) ch]⟩, some ⟨.rw, lc l⟩, some ⟨.rw, lc r⟩, some ⟨.rw, lc u⟩, some ⟨.rw, z6⟩, some ⟨.rw, lc (linv u)⟩, some ⟨.rw, lc (fc0 l r p u)⟩, db (fgo (linv u) u g m) 0, db (fgo u (linv u) h m) 0]⟩) rfl (by simp) ?_ (uniq_nodup' (by decide)) ?_ (run_for (fun i => ⟨[.unk, .unk, .unk, .unk, .sl 2 0 m (.grow 4), .sl 3 (m * 4) m cr, .ptr 4 0, .unk, .unk, .ptr 7 0, .unk, .unk, .ptr 8 0, .unk, .int .i64 m, .ptr 9 0, .ptr 10 0, dv 11 i, dv 12 i, .int .i64 (i : Nat)] ++ List.replicate 144 .unk, [some ⟨.ro, scs (2 * m) g⟩, some ⟨.ro, scs (2 * m) h⟩, some ⟨.ro, scs (2 * m) lo⟩, some ⟨.ro, Xr⟩, some ⟨.rw, lc p ++ lc q ++ [.sl 0 0 (2 * m) cg, .sl 1 0 (2 * m) ch]⟩, some ⟨.rw, lc l⟩, some ⟨.rw, lc r⟩, some ⟨.rw, lc u⟩, some ⟨.rw, z6⟩, some ⟨.rw, lc (linv u)⟩, some ⟨.rw, lc (fc0 l r p u)⟩, db (fgo (linv u) u g m) i, db (fgo u (linv u) h m) i]⟩) m (fun i him ih => ?_) ?_)
  · exact hfit_cons rfl (jb_g (scs_rens ..)) (hfit_cons rfl (jb_g (scs_rens ..)) (hfit_cons rfl (jb_g (scs_rens ..)) (hfit_cons rfl (jb_g (rr _)) (hfit_cons rfl (jb_g (by simp only [rens_append, lc_rens]; rfl)) (hfit_cons rfl (jb_g (lc_rens ..)) (hfit_cons rfl (jb_g (lc_rens ..)) (hfit_cons rfl (jb_g (lc_rens ..)) (hfit_cons rfl (jb_g (rz6 _)) (hfit_cons rfl (jb_g (lc_rens ..)) (hfit_cons rfl (jb_g (lc_rens ..)) (hfit_cons_none (hfit_cons_none hfit_nil))))))))))))
  · rw [dv_zero', dv_zero']
    simp only [go_sem, fit, ren, gmap, true_or, or_true]
  · have h0 : ((i : Int) < (m : Int)) = True := eq_true (by omega)
    have hw : IntKind.i64.wrap ((i : Int) + 1) = ((i + 1 : Nat) : Int) := by rw [wrap_i64 (by omega) (by omega)]; omega
    have hi2 : ((i : Int) < ((2 * m : Nat) : Int)) = True := eq_true (by omega)
    have hmi : IntKind.i64.wrap ((m : Int) + (i : Int)) = ((m + i : Nat) : Int) := by rw [wrap_i64 (by omega) (by omega)]; omega
    have hmi2 : (((m + i : Nat) : Int) < ((2 * m : Nat) : Int)) = True := eq_true (by omega)
    have g1 := scs_get' (2 * m) g (i := i) (by omega)
    have g2 := scs_get' (2 * m) g (i := m + i) (by omega)
    have g3 := scs_get' (2 * m) h (i := i) (by omega)
    have g4 := scs_get' (2 * m) h (i := m + i) (by omega)
    by_cases hz : i = 0
    · subst hz
      have h0' : ((0 : Int) < (m : Int)) = True := eq_true (by omega)
      have hi2 : ((0 : Int) < ((2 * m : Nat) : Int)) = True := eq_true (by omega)
      have hmi : IntKind.i64.wrap ((m : Int)) = (m : Int) := wrap_i64 (by omega) (by omega)
      have hmi2 : ((m : Int) < ((2 * m : Nat) : Int)) = True := eq_true (by omega)
      rw [Nat.zero_mul, List.drop_zero] at g1 g3
      rw [Nat.add_zero] at g2 g4
      rw [dv_zero', dv_zero', show ∀ f, db f 0 = none from fun _ => rfl, show ∀ f, db f 0 = none from fun _ => rfl]
      have hb1 := scs_s1 (fgo (linv u) u g m) (v := (linv u * g 0 % ell + u * g m % ell) % ell) rfl
      have hb2 := scs_s1 (fgo u (linv u) h m) (v := (u * h 0 % ell + linv u * h m % ell) % ell) rfl
      refine run_loop_eq v9_11.eq_1 ?_
      refine run_driveS 80 ?_
      simp only [go_sem, v9_6, v9_9, h0']
      refine run_drw (by kernel_rfl) ?_
      refine drun_drive 40 (p := (_, _)) ?_
      simp only [go_sem, v9_7, h0', lc9, lc0, lc8, lc4, lenO_sl, hi2, hmi, hmi2, g1, g2, g3, g4, restore, Option.join_some, maskH, List.mapIdx_cons, List.mapIdx_nil, List.contains_cons, List.contains_nil, Bool.or_false, Bool.or_true, Bool.false_or, Bool.true_or, Nat.reduceBEq]
      refine drun_call' ?_
      simp only [go_sem, calV, restore, Option.join_some, maskH, List.mapIdx_cons, List.mapIdx_nil, List.contains_cons, List.contains_nil, Bool.or_false, Bool.or_true, Bool.false_or, Bool.true_or, Nat.reduceBEq]
      refine mul' hG _ _ hv (hg _) ?_
      refine drun_drive 40 (p := (_, _)) ?_
      simp only [go_sem, restore, Option.join_some, maskH, List.mapIdx_cons, List.mapIdx_nil, List.contains_cons, List.contains_nil, Bool.or_false, Bool.or_true, Bool.false_or, Bool.true_or, Nat.reduceBEq]
      refine drun_call' ?_
      simp only [go_sem, calV, restore, Option.join_some, maskH, List.mapIdx_cons, List.mapIdx_nil, List.contains_cons, List.contains_nil, Bool.or_false, Bool.or_true, Bool.false_or, Bool.true_or, Nat.reduceBEq]
      refine mul' hG _ _ hu (hg _) ?_
      refine drun_drive 40 (p := (_, _)) ?_
      simp only [go_sem, restore, Option.join_some, maskH, List.mapIdx_cons, List.mapIdx_nil, List.contains_cons, List.contains_nil, Bool.or_false, Bool.or_true, Bool.false_or, Bool.true_or, Nat.reduceBEq]
      refine drun_call' ?_
      simp only [go_sem, calV, restore, Option.join_some, maskH, List.mapIdx_cons, List.mapIdx_nil, List.contains_cons, List.contains_nil, Bool.or_false, Bool.or_true, Bool.false_or, Bool.true_or, Nat.reduceBEq]
      refine add_ hG _ _ (mod_lt _) (mod_lt _) ?_
      refine drun_drive 40 (p := (_, _)) ?_
      simp only [go_sem, restore, Option.join_some, maskH, List.mapIdx_cons, List.mapIdx_nil, List.contains_cons, List.contains_nil, Bool.or_false, Bool.or_true, Bool.false_or, Bool.true_or, Nat.reduceBEq]
      refine drun_end ?_
      refine run_drw (by kernel_rfl) ?_
      refine drun_drive 40 (p := (_, _)) ?_
      simp only [go_sem, v9_8, h0', lc9, lc0, lc8, lc4, lenO_sl, hi2, hmi, hmi2, g1, g2, g3, g4, restore, Option.join_some, maskH, List.mapIdx_cons, List.mapIdx_nil, List.contains_cons, List.contains_nil, Bool.or_false, Bool.or_true, Bool.false_or, Bool.true_or, Nat.reduceBEq]
      refine drun_call' ?_
      simp only [go_sem, calV, restore, Option.join_some, maskH, List.mapIdx_cons, List.mapIdx_nil, List.contains_cons, List.contains_nil, Bool.or_false, Bool.or_true, Bool.false_or, Bool.true_or, Nat.reduceBEq]
      refine mul' hG _ _ hu (hh _) ?_
      refine drun_drive 40 (p := (_, _)) ?_
      simp only [go_sem, restore, Option.join_some, maskH, List.mapIdx_cons, List.mapIdx_nil, List.contains_cons, List.contains_nil, Bool.or_false, Bool.or_true, Bool.false_or, Bool.true_or, Nat.reduceBEq]
      refine drun_call' ?_
      simp only [go_sem, calV, restore, Option.join_some, maskH, List.mapIdx_cons, List.mapIdx_nil, List.contains_cons, List.contains_nil, Bool.or_false, Bool.or_true, Bool.false_or, Bool.true_or, Nat.reduceBEq]
      refine mul' hG _ _ hv (hh _) ?_
      refine drun_drive 40 (p := (_, _)) ?_
      simp only [go_sem, restore, Option.join_some, maskH, List.mapIdx_cons, List.mapIdx_nil, List.contains_cons, List.contains_nil, Bool.or_false, Bool.or_true, Bool.false_or, Bool.true_or, Nat.reduceBEq]
      refine drun_call' ?_
      simp only [go_sem, calV, restore, Option.join_some, maskH, List.mapIdx_cons, List.mapIdx_nil, List.contains_cons, List.contains_nil, Bool.or_false, Bool.or_true, Bool.false_or, Bool.true_or, Nat.reduceBEq]
      refine add_ hG _ _ (mod_lt _) (mod_lt _) ?_
      refine drun_drive 40 (p := (_, _)) ?_
      simp only [go_sem, restore, Option.join_some, maskH, List.mapIdx_cons, List.mapIdx_nil, List.contains_cons, List.contains_nil, Bool.or_false, Bool.or_true, Bool.false_or, Bool.true_or, Nat.reduceBEq]
      refine drun_end ?_
      refine run_driveS 80 ?_
      simp only [go_sem, v9_10]
      rw [dv_pos (Nat.succ_pos 0), dv_pos (Nat.succ_pos 0), db_pos (Nat.succ_pos 0), db_pos (Nat.succ_pos 0)] at ih
      refine run_rename [0, 1, 2, 3, 4, 5, 6, 7, 8, 9, 10, 14, 16] rfl (by simp) ?_ (uniq_nodup' (by decide)) ?_ ih
      · exact hfit_cons rfl (jb_g (scs_rens ..)) (hfit_cons rfl (jb_g (scs_rens ..)) (hfit_cons rfl (jb_g (scs_rens ..)) (hfit_cons rfl (jb_g (rr _)) (hfit_cons rfl (jb_g (by simp only [rens_append, lc_rens]; rfl)) (hfit_cons rfl (jb_g (lc_rens ..)) (hfit_cons rfl (jb_g (lc_rens ..)) (hfit_cons rfl (jb_g (lc_rens ..)) (hfit_cons rfl (jb_g (rz6 _)) (hfit_cons rfl (jb_g (lc_rens ..)) (hfit_cons rfl (jb_g (lc_rens ..)) (hfit_cons rfl (by rw [hb1]; exact jb_g (lc_rens ..)) (hfit_cons rfl (by rw [hb2]; exact jb_g (lc_rens ..)) hfit_nil))))))))))))
      · simp only [go_sem, fit, ren, gmap, true_or, or_true]
    · have hp0 : 0 < i := by omega
      rw [dv_pos hp0, dv_pos hp0, db_pos hp0, db_pos hp0]
      have a1 : ((i + 1) * 32 ≤ 140737488355328) = True := eq_true (by omega)
      have a2 : (i + 1 ≤ 9223372036854775807) = True := eq_true (by omega)
      have a3 := scs_snoc i (fgo (linv u) u g m) (v := (linv u * g i % ell + u * g (m + i) % ell) % ell) rfl
      have a2' : (i ≤ 9223372036854775806) = True := eq_true (by omega)
      have a4 := scs_snoc i (fgo u (linv u) h m) (v := (u * h i % ell + linv u * h (m + i) % ell) % ell) rfl
      refine run_loop_eq v9_11.eq_1 ?_
      refine run_driveS 80 ?_
      simp only [go_sem, v9_6, v9_9, h0]
      refine run_drw (by kernel_rfl) ?_
      refine drun_drive 40 (p := (_, _)) ?_
      simp only [go_sem, v9_7, h0, lc9, lc0, lc8, lc4, lenO_sl, hi2, hmi, hmi2, g1, g2, g3, g4, a1, a2, a3, a4, restore, Option.join_some, maskH, List.mapIdx_cons, List.mapIdx_nil, List.contains_cons, List.contains_nil, Bool.or_false, Bool.or_true, Bool.false_or, Bool.true_or, Nat.reduceBEq]
      refine drun_call' ?_
      simp only [go_sem, calV, restore, Option.join_some, maskH, List.mapIdx_cons, List.mapIdx_nil, List.contains_cons, List.contains_nil, Bool.or_false, Bool.or_true, Bool.false_or, Bool.true_or, Nat.reduceBEq]
      refine mul' hG _ _ hv (hg _) ?_
      refine drun_drive 40 (p := (_, _)) ?_
      simp only [go_sem, restore, Option.join_some, maskH, List.mapIdx_cons, List.mapIdx_nil, List.contains_cons, List.contains_nil, Bool.or_false, Bool.or_true, Bool.false_or, Bool.true_or, Nat.reduceBEq]
      refine drun_call' ?_
      simp only [go_sem, calV, restore, Option.join_some, maskH, List.mapIdx_cons, List.mapIdx_nil, List.contains_cons, List.contains_nil, Bool.or_false, Bool.or_true, Bool.false_or, Bool.true_or, Nat.reduceBEq]
      refine mul' hG _ _ hu (hg _) ?_
      refine drun_drive 40 (p := (_, _)) ?_
      simp only [go_sem, restore, Option.join_some, maskH, List.mapIdx_cons, List.mapIdx_nil, List.contains_cons, List.contains_nil, Bool.or_false, Bool.or_true, Bool.false_or, Bool.true_or, Nat.reduceBEq]
      refine drun_call' ?_
      simp only [go_sem, calV, restore, Option.join_some, maskH, List.mapIdx_cons, List.mapIdx_nil, List.contains_cons, List.contains_nil, Bool.or_false, Bool.or_true, Bool.false_or, Bool.true_or, Nat.reduceBEq]
      refine add_ hG _ _ (mod_lt _) (mod_lt _) ?_
      refine drun_drive 40 (p := (_, _)) ?_
      simp only [go_sem, a1, a2, a2', a3, a4, restore, Option.join_some, maskH, List.mapIdx_cons, List.mapIdx_nil, List.contains_cons, List.contains_nil, Bool.or_false, Bool.or_true, Bool.false_or, Bool.true_or, Nat.reduceBEq]
      refine drun_end ?_
      refine run_drw (by kernel_rfl) ?_
      refine drun_drive 40 (p := (_, _)) ?_
      simp only [go_sem, v9_8, h0, lc9, lc0, lc8, lc4, lenO_sl, hi2, hmi, hmi2, g1, g2, g3, g4, a1, a2, a3, a4, restore, Option.join_some, maskH, List.mapIdx_cons, List.mapIdx_nil, List.contains_cons, List.contains_nil, Bool.or_false, Bool.or_true, Bool.false_or, Bool.true_or, Nat.reduceBEq]
      refine drun_call' ?_
      simp only [go_sem, calV, restore, Option.join_some, maskH, List.mapIdx_cons, List.mapIdx_nil, List.contains_cons, List.contains_nil, Bool.or_false, Bool.or_true, Bool.false_or, Bool.true_or, Nat.reduceBEq]
      refine mul' hG _ _ hu (hh _) ?_
      refine drun_drive 40 (p := (_, _)) ?_
      simp only [go_sem, restore, Option.join_some, maskH, List.mapIdx_cons, List.mapIdx_nil, List.contains_cons, List.contains_nil, Bool.or_false, Bool.or_true, Bool.false_or, Bool.true_or, Nat.reduceBEq]
      refine drun_call' ?_
      simp only [go_sem, calV, restore, Option.join_some, maskH, List.mapIdx_cons, List.mapIdx_nil, List.contains_cons, List.contains_nil, Bool.or_false, Bool.or_true, Bool.false_or, Bool.true_or, Nat.reduceBEq]
      refine mul' hG _ _ hv (hh _) ?_
      refine drun_drive 40 (p := (_, _)) ?_
      simp only [go_sem, restore, Option.join_some, maskH, List.mapIdx_cons, List.mapIdx_nil, List.contains_cons, List.contains_nil, Bool.or_false, Bool.or_true, Bool.false_or, Bool.true_or, Nat.reduceBEq]
      refine drun_call' ?_
      simp only [go_sem, calV, restore, Option.join_some, maskH, List.mapIdx_cons, List.mapIdx_nil, List.contains_cons, List.contains_nil, Bool.or_false, Bool.or_true, Bool.false_or, Bool.true_or, Nat.reduceBEq]
      refine add_ hG _ _ (mod_lt _) (mod_lt _) ?_
      refine drun_drive 40 (p := (_, _)) ?_
      simp only [go_sem, a1, a2, a2', a3, a4, restore, Option.join_some, maskH, List.mapIdx_cons, List.mapIdx_nil, List.contains_cons, List.contains_nil, Bool.or_false, Bool.or_true, Bool.false_or, Bool.true_or, Nat.reduceBEq]
      refine drun_end ?_
      refine run_driveS 80 ?_
      simp only [go_sem, v9_10, hw]
      rw [dv_pos (Nat.succ_pos i), dv_pos (Nat.succ_pos i), db_pos (Nat.succ_pos i), db_pos (Nat.succ_pos i)] at ih
      refine run_rename [0, 1, 2, 3, 4, 5, 6, 7, 8, 9, 10, 14, 16] rfl (by simp) ?_ (uniq_nodup' (by decide)) ?_ ih
      · exact hfit_cons rfl (jb_g (scs_rens ..)) (hfit_cons rfl (jb_g (scs_rens ..)) (hfit_cons rfl (jb_g (scs_rens ..)) (hfit_cons rfl (jb_g (rr _)) (hfit_cons rfl (jb_g (by simp only [rens_append, lc_rens]; rfl)) (hfit_cons rfl (jb_g (lc_rens ..)) (hfit_cons rfl (jb_g (lc_rens ..)) (hfit_cons rfl (jb_g (lc_rens ..)) (hfit_cons rfl (jb_g (rz6 _)) (hfit_cons rfl (jb_g (lc_rens ..)) (hfit_cons rfl (jb_g (lc_rens ..)) (hfit_cons rfl (jb_g (scs_rens ..)) (hfit_cons rfl (jb_g (scs_rens ..)) hfit_nil))))))))))))
      · simp only [go_sem, fit, ren, gmap, true_or, or_true]
  · have h0 : ((m : Int) < (m : Int)) = False := eq_false (by omega)
    rw [dv_pos hm, dv_pos hm, db_pos hm, db_pos hm]
    refine run_loop_eq v9_11.eq_1 ?_
    refine run_driveS 80 ?_
    simp only [go_sem, v9_6, h0]
    refine run_exit rfl ?_
    refine run_driveS 80 ?_
    simp only [go_sem, v9_13, v9_21]
    have hfl := fac_lt (show fc0 l r p u < 115792089237316195423570985008687907853269984665640564039457584007913129639936 from mod_lt _) q (fgo (linv u) u g m) (fgo u (linv u) h m) lo hi
    refine run_rename [0, 1, 2, 3, 4, 5, 6, 7, 8, 9, 10, 11, 12] (st' := ⟨[.unk, .unk, .unk, .unk, .sl 2 0 m (.grow 4), .sl 3 (m * 4) m cr, .ptr 4 0, .unk, .unk, .ptr 7 0, .unk, .unk, .ptr 8 0, .unk, .int .i64 m, .unk, .ptr 10 0, .sl 11 0 m (.grow 4), .sl 12 0 m (.grow 4), .unk, .int .i64 (0 : Nat)] ++ List.replicate 143 .unk, [some ⟨.ro, scs (2 * m) g⟩, some ⟨.ro, scs (2 * m) h⟩, some ⟨.ro, scs (2 * m) lo⟩, some ⟨.ro, Xr⟩, some ⟨.rw, lc p ++ lc q ++ [.sl 0 0 (2 * m) cg, .sl 1 0 (2 * m) ch]⟩, some ⟨.rw, lc l⟩, some ⟨.rw, lc r⟩, some ⟨.rw, lc u⟩, some ⟨.rw, z6⟩, some ⟨.rw, lc (linv u)⟩, some ⟨.rw, lc (fac (fc0 l r p u) q (fgo (linv u) u g m) (fgo u (linv u) h m) lo hi 0)⟩, some ⟨.grow, scs m (fgo (linv u) u g m)⟩, some ⟨.grow, scs m (fgo u (linv u) h m)⟩]⟩) rfl (by simp) ?_ (uniq_nodup' (by decide)) ?_ (run_for (fun i => ⟨[.unk, .unk, .unk, .unk, .sl 2 0 m (.grow 4), .sl 3 (m * 4) m cr, .ptr 4 0, .unk, .unk, .ptr 7 0, .unk, .unk, .ptr 8 0, .unk, .int .i64 m, .unk, .ptr 10 0, .sl 11 0 m (.grow 4), .sl 12 0 m (.grow 4), .unk, .int .i64 (i : Nat)] ++ List.replicate 143 .unk, [some ⟨.ro, scs (2 * m) g⟩, some ⟨.ro, scs (2 * m) h⟩, some ⟨.ro, scs (2 * m) lo⟩, some ⟨.ro, Xr⟩, some ⟨.rw, lc p ++ lc q ++ [.sl 0 0 (2 * m) cg, .sl 1 0 (2 * m) ch]⟩, some ⟨.rw, lc l⟩, some ⟨.rw, lc r⟩, some ⟨.rw, lc u⟩, some ⟨.rw, z6⟩, some ⟨.rw, lc (linv u)⟩, some ⟨.rw, lc (fac (fc0 l r p u) q (fgo (linv u) u g m) (fgo u (linv u) h m) lo hi i)⟩, some ⟨.grow, scs m (fgo (linv u) u g m)⟩, some ⟨.grow, scs m (fgo u (linv u) h m)⟩]⟩) m (fun i him ih => ?_) ?_)
    · exact hfit_cons rfl (jb_g (scs_rens ..)) (hfit_cons rfl (jb_g (scs_rens ..)) (hfit_cons rfl (jb_g (scs_rens ..)) (hfit_cons rfl (jb_g (rr _)) (hfit_cons rfl (jb_g (by simp only [rens_append, lc_rens]; rfl)) (hfit_cons rfl (jb_g (lc_rens ..)) (hfit_cons rfl (jb_g (lc_rens ..)) (hfit_cons rfl (jb_g (lc_rens ..)) (hfit_cons rfl (jb_g (rz6 _)) (hfit_cons rfl (jb_g (lc_rens ..)) (hfit_cons rfl (jb_g (lc_rens ..)) (hfit_cons rfl (jb_g (scs_rens ..)) (hfit_cons rfl (jb_g (scs_rens ..)) hfit_nil))))))))))))
    · simp only [go_sem, fit, ren, gmap, true_or, or_true]
    · have h1 : ((i : Int) < (m : Int)) = True := eq_true (by omega)
      have hw : IntKind.i64.wrap ((i : Int) + 1) = ((i + 1 : Nat) : Int) := by rw [wrap_i64 (by omega) (by omega)]; omega
      have hi2 : ((i : Int) < ((2 * m : Nat) : Int)) = True := eq_true (by omega)
      have g1 := er i him
      have g2 := scs_get' m (fgo u (linv u) h m) (i := i) him
      have g3 := scs_get' m (fgo (linv u) u g m) (i := i) him
      have g4 := scs_get' (2 * m) lo (i := i) (by omega)
      refine run_loop_eq v9_20.eq_1 ?_
      refine run_driveS 80 ?_
      simp only [go_sem, v9_14, v9_18, h1]
      refine run_drw (by kernel_rfl) ?_
      refine drun_drive 40 (p := (_, _)) ?_
      simp only [go_sem, v9_15, h1, g1, g2, restore, Option.join_some, maskH, List.mapIdx_cons, List.mapIdx_nil, List.contains_cons, List.contains_nil, Bool.or_false, Bool.or_true, Bool.false_or, Bool.true_or, Nat.reduceBEq]
      refine drun_call' ?_
      simp only [go_sem, calV, restore, Option.join_some, maskH, List.mapIdx_cons, List.mapIdx_nil, List.contains_cons, List.contains_nil, Bool.or_false, Bool.or_true, Bool.false_or, Bool.true_or, Nat.reduceBEq]
      refine mul' hG _ _ (hhi _) (fgo_lt ..) ?_
      refine drun_drive 40 (p := (_, _)) ?_
      simp only [go_sem, restore, Option.join_some, maskH, List.mapIdx_cons, List.mapIdx_nil, List.contains_cons, List.contains_nil, Bool.or_false, Bool.or_true, Bool.false_or, Bool.true_or, Nat.reduceBEq]
      refine drun_call' ?_
      simp only [go_sem, calV, restore, Option.join_some, maskH, List.mapIdx_cons, List.mapIdx_nil, List.contains_cons, List.contains_nil, Bool.or_false, Bool.or_true, Bool.false_or, Bool.true_or, Nat.reduceBEq]
      refine sub_ hG _ _ (hfl i) (mod_lt _) ?_
      refine drun_drive 40 (p := (_, _)) ?_
      simp only [go_sem, restore, Option.join_some, maskH, List.mapIdx_cons, List.mapIdx_nil, List.contains_cons, List.contains_nil, Bool.or_false, Bool.or_true, Bool.false_or, Bool.true_or, Nat.reduceBEq]
      refine drun_end ?_
      by_cases hz : i = 0
      · subst hz
        refine run_driveS 80 ?_
        simp only [go_sem, v9_16]
        refine run_cond_f (by rfl) ?_
        refine run_driveS 80 ?_
        simp only [go_sem, v9_19]
        refine run_rename [0, 1, 2, 3, 4, 5, 6, 7, 8, 9, 10, 11, 12] rfl (by simp) ?_ (uniq_nodup' (by decide)) ?_ ih
        · exact hfit_cons rfl (jb_g (scs_rens ..)) (hfit_cons rfl (jb_g (scs_rens ..)) (hfit_cons rfl (jb_g (scs_rens ..)) (hfit_cons rfl (jb_g (rr _)) (hfit_cons rfl (jb_g (by simp only [rens_append, lc_rens]; rfl)) (hfit_cons rfl (jb_g (lc_rens ..)) (hfit_cons rfl (jb_g (lc_rens ..)) (hfit_cons rfl (jb_g (lc_rens ..)) (hfit_cons rfl (jb_g (rz6 _)) (hfit_cons rfl (jb_g (lc_rens ..)) (hfit_cons rfl (jb_g (lc_rens ..)) (hfit_cons rfl (jb_g (scs_rens ..)) (hfit_cons rfl (jb_g (scs_rens ..)) hfit_nil))))))))))))
        · simp only [go_sem, fit, ren, gmap, true_or, or_true]
      · have hp0 : ((0 : Int) < (i : Int)) = True := eq_true (by omega)
        have ef : fac (fc0 l r p u) q (fgo (linv u) u g m) (fgo u (linv u) h m) lo hi (i + 1) = sb (sb (sb (fac (fc0 l r p u) q (fgo (linv u) u g m) (fgo u (linv u) h m) lo hi i) (hi i * fgo u (linv u) h m i % ell)) (lo i * fgo (linv u) u g m i % ell)) ((lo i * hi i % ell) * q % ell) := if_neg hz
        rw [ef] at ih
        refine run_driveS 80 ?_
        simp only [go_sem, v9_16, hp0]
        refine run_cond_t (by rfl) ?_
        refine run_driveS 80 ?_
        simp only [go_sem]
        refine run_drw (by kernel_rfl) ?_
        refine drun_drive 40 (p := (_, _)) ?_
        simp only [go_sem, v9_17, h1, hi2, g1, g2, g3, g4, lc8, lc4, restore, Option.join_some, maskH, List.mapIdx_cons, List.mapIdx_nil, List.contains_cons, List.contains_nil, Bool.or_false, Bool.or_true, Bool.false_or, Bool.true_or, Nat.reduceBEq]
        refine drun_call' ?_
        simp only [go_sem, calV, restore, Option.join_some, maskH, List.mapIdx_cons, List.mapIdx_nil, List.contains_cons, List.contains_nil, Bool.or_false, Bool.or_true, Bool.false_or, Bool.true_or, Nat.reduceBEq]
        refine mul' hG _ _ (hlo _) (fgo_lt ..) ?_
        refine drun_drive 40 (p := (_, _)) ?_
        simp only [go_sem, restore, Option.join_some, maskH, List.mapIdx_cons, List.mapIdx_nil, List.contains_cons, List.contains_nil, Bool.or_false, Bool.or_true, Bool.false_or, Bool.true_or, Nat.reduceBEq]
        refine drun_call' ?_
        simp only [go_sem, calV, restore, Option.join_some, maskH, List.mapIdx_cons, List.mapIdx_nil, List.contains_cons, List.contains_nil, Bool.or_false, Bool.or_true, Bool.false_or, Bool.true_or, Nat.reduceBEq]
        refine sub_ hG _ _ (sb_lt ..) (mod_lt _) ?_
        refine drun_drive 40 (p := (_, _)) ?_
        simp only [go_sem, restore, Option.join_some, maskH, List.mapIdx_cons, List.mapIdx_nil, List.contains_cons, List.contains_nil, Bool.or_false, Bool.or_true, Bool.false_or, Bool.true_or, Nat.reduceBEq]
        refine drun_call' ?_
        simp only [go_sem, calV, restore, Option.join_some, maskH, List.mapIdx_cons, List.mapIdx_nil, List.contains_cons, List.contains_nil, Bool.or_false, Bool.or_true, Bool.false_or, Bool.true_or, Nat.reduceBEq]
        refine mul' hG _ _ (hlo _) (hhi _) ?_
        refine drun_drive 40 (p := (_, _)) ?_
        simp only [go_sem, restore, Option.join_some, maskH, List.mapIdx_cons, List.mapIdx_nil, List.contains_cons, List.contains_nil, Bool.or_false, Bool.or_true, Bool.false_or, Bool.true_or, Nat.reduceBEq]
        refine drun_call' ?_
        simp only [go_sem, calV, restore, Option.join_some, maskH, List.mapIdx_cons, List.mapIdx_nil, List.contains_cons, List.contains_nil, Bool.or_false, Bool.or_true, Bool.false_or, Bool.true_or, Nat.reduceBEq]
        refine mul' hG _ _ (mod_lt _) hq ?_
        refine drun_drive 40 (p := (_, _)) ?_
        simp only [go_sem, restore, Option.join_some, maskH, List.mapIdx_cons, List.mapIdx_nil, List.contains_cons, List.contains_nil, Bool.or_false, Bool.or_true, Bool.false_or, Bool.true_or, Nat.reduceBEq]
        refine drun_call' ?_
        simp only [go_sem, calV, restore, Option.join_some, maskH, List.mapIdx_cons, List.mapIdx_nil, List.contains_cons, List.contains_nil, Bool.or_false, Bool.or_true, Bool.false_or, Bool.true_or, Nat.reduceBEq]
        refine sub_ hG _ _ (sb_lt ..) (mod_lt _) ?_
        refine drun_drive 40 (p := (_, _)) ?_
        simp only [go_sem, restore, Option.join_some, maskH, List.mapIdx_cons, List.mapIdx_nil, List.contains_cons, List.contains_nil, Bool.or_false, Bool.or_true, Bool.false_or, Bool.true_or, Nat.reduceBEq]
        refine drun_end ?_
        refine run_driveS 80 ?_
        simp only [go_sem, v9_19, hw]
        refine run_rename [0, 1, 2, 3, 4, 5, 6, 7, 8, 9, 10, 11, 12] rfl (by simp) ?_ (uniq_nodup' (by decide)) ?_ ih
        · exact hfit_cons rfl (jb_g (scs_rens ..)) (hfit_cons rfl (jb_g (scs_rens ..)) (hfit_cons rfl (jb_g (scs_rens ..)) (hfit_cons rfl (jb_g (rr _)) (hfit_cons rfl (jb_g (by simp only [rens_append, lc_rens]; rfl)) (hfit_cons rfl (jb_g (lc_rens ..)) (hfit_cons rfl (jb_g (lc_rens ..)) (hfit_cons rfl (jb_g (lc_rens ..)) (hfit_cons rfl (jb_g (rz6 _)) (hfit_cons rfl (jb_g (lc_rens ..)) (hfit_cons rfl (jb_g (lc_rens ..)) (hfit_cons rfl (jb_g (scs_rens ..)) (hfit_cons rfl (jb_g (scs_rens ..)) hfit_nil))))))))))))
        · simp only [go_sem, fit, ren, gmap, true_or, or_true]
    · have h1 : ((m : Int) < (m : Int)) = False := eq_false (by omega)
      have h2 : ((0 : Int) < (m : Int)) = True := eq_true (by omega)
      refine run_loop_eq v9_20.eq_1 ?_
      refine run_driveS 80 ?_
      simp only [go_sem, v9_14, h1]
      refine run_exit rfl ?_
      have g1 := er 0 hm
      have g3 := scs_get' m (fgo (linv u) u g m) (i := 0) hm
      rw [Nat.zero_mul, Nat.add_zero] at g1
      rw [Nat.zero_mul, List.drop_zero] at g3
      refine run_driveS 80 ?_
      simp only [go_sem]
      refine run_drw (by kernel_rfl) ?_
      refine drun_drive 40 (p := (_, _)) ?_
      simp only [go_sem, v9_22, h2, g1, g3, lc8, lc4, jz4, restore, Option.join_some, maskH, List.mapIdx_cons, List.mapIdx_nil, List.contains_cons, List.contains_nil, Bool.or_false, Bool.or_true, Bool.false_or, Bool.true_or, Nat.reduceBEq]
      refine drun_call' ?_
      simp only [go_sem, calV, restore, Option.join_some, maskH, List.mapIdx_cons, List.mapIdx_nil, List.contains_cons, List.contains_nil, Bool.or_false, Bool.or_true, Bool.false_or, Bool.true_or, Nat.reduceBEq]
      refine mul' hG _ _ (hhi _) hq ?_
      refine drun_drive 40 (p := (_, _)) ?_
      simp only [go_sem, restore, Option.join_some, maskH, List.mapIdx_cons, List.mapIdx_nil, List.contains_cons, List.contains_nil, Bool.or_false, Bool.or_true, Bool.false_or, Bool.true_or, Nat.reduceBEq]
      refine drun_call' ?_
      simp only [go_sem, calV, restore, Option.join_some, maskH, List.mapIdx_cons, List.mapIdx_nil, List.contains_cons, List.contains_nil, Bool.or_false, Bool.or_true, Bool.false_or, Bool.true_or, Nat.reduceBEq]
      refine add_ hG _ _ (fgo_lt ..) (mod_lt _) ?_
      refine drun_drive 40 (p := (_, _)) ?_
      simp only [go_sem, restore, Option.join_some, maskH, List.mapIdx_cons, List.mapIdx_nil, List.contains_cons, List.contains_nil, Bool.or_false, Bool.or_true, Bool.false_or, Bool.true_or, Nat.reduceBEq]
      refine drun_end ?_
      refine run_driveS 80 ?_
      simp only [go_sem, v9_23]
      refine run_call' rfl ?_
      simp only [go_sem, calV]
      refine is_zero' hG _ (mod_lt _) ?_
      by_cases hk : fkk q (fgo (linv u) u g m) hi % ell = 0
      · rw [show decide ((fgo (linv u) u g m 0 + hi 0 * q % ell) % ell % ell = 0) = true from decide_eq_true hk]
        refine run_driveS 80 ?_
        simp only [go_sem]
        refine run_cond_t (by rfl) ?_
        subst hz6
        refine run_driveS 80 ?_
        simp only [go_sem, v9_24]
        exact run_ret_drop Tryd.func9 res9 [0, 1, 2, 3] (.tup [.agg [.int .u64 (nl 0), .int .u64 (nl 0), .int .u64 (nl 0), .int .u64 (nl 0), .nils, .nils], .bool false]) [none, none, none, none] rfl (by simp) (hfit_cons_none (hfit_cons_none (hfit_cons_none (hfit_cons_none hfit_nil)))) (uniq_nodup' (by decide)) rfl (hF hk)
      · rw [show decide ((fgo (linv u) u g m 0 + hi 0 * q % ell) % ell % ell = 0) = false from decide_eq_false hk]
        refine run_driveS 80 ?_
        simp only [go_sem]
        refine run_cond_f (by rfl) ?_
        refine run_driveS 80 ?_
        simp only [go_sem]
        have f1 : (m * 4 ≤ 2 * m * 4) = True := eq_true (by omega)
        have f2 : ((1 : Int) ≤ (m : Int)) = True := eq_true (by omega)
        have f3 : ((m + 1) * 4 ≤ 2 * m * 4) = True := eq_true (by omega)
        have f4 : ((m : Int) - 1).toNat = m - 1 := by omega
        have f5 : ((1 : Int) = 0) = False := eq_false (by decide)
        have f6 : 1 + (m - 1) = m := by omega
        have f7 : (4 + (m - 1) * 4 ≤ 2 * m * 4) = True := eq_true (by omega)
        have f8 : (m * 32 ≤ 140737488355328) = True := eq_true (by omega)
        have f9 : (m ≤ 9223372036854775807) = True := eq_true (by omega)
        have e1 := tile_at er
        have e2 : (m * 4 + m * 4 ≤ Xr.length) = True := eq_true (tile_le hm er)
        have e3 : (m ≤ 0) = False := eq_false (by omega)
        have e4 : ((scs (2 * m) lo).drop 4).take ((m - 1) * 4) = scs (m - 1) fun i => lo (1 + i) := by
          rw [show 2 * m = 1 + ((m - 1) + m) by omega]
          exact scs_tl ..
        have e5 : lc (fac (fc0 l r p u) q (fgo (linv u) u g m) (fgo u (linv u) h m) lo hi m * linv ((fgo (linv u) u g m 0 + hi 0 * q % ell) % ell) % ell) ++ scs (m - 1) (fun i => lo (1 + i)) = scs m (fa0 (fac (fc0 l r p u) q (fgo (linv u) u g m) (fgo u (linv u) h m) lo hi m * linv (fkk q (fgo (linv u) u g m) hi) % ell) lo) := fa0_cat _ lo hm
        by_cases hm1 : m = 1
        · have c1 : (m ≤ 1) = True := eq_true (by omega)
          have c2 : m - 1 = 0 := by omega
          refine run_drw (by kernel_rfl) ?_
          refine drun_drive 40 (p := (_, _)) ?_
          simp only [go_sem, v9_25, h2, lc8, lc4, f1, f2, f3, f4, f5, f6, f7, f8, f9, e1, e2, e3, c1, c2, Nat.zero_mul, bq5, bq6, restore, Option.join_some, maskH, List.mapIdx_cons, List.mapIdx_nil, List.contains_cons, List.contains_nil, Bool.or_false, Bool.or_true, Bool.false_or, Bool.true_or, Nat.reduceBEq]
          refine drun_call' ?_
          simp only [go_sem, calV, restore, Option.join_some, maskH, List.mapIdx_cons, List.mapIdx_nil, List.contains_cons, List.contains_nil, Bool.or_false, Bool.or_true, Bool.false_or, Bool.true_or, Nat.reduceBEq]
          refine invert' hG _ (mod_lt _) ?_
          refine drun_drive 40 (p := (_, _)) ?_
          simp only [go_sem, restore, Option.join_some, maskH, List.mapIdx_cons, List.mapIdx_nil, List.contains_cons, List.contains_nil, Bool.or_false, Bool.or_true, Bool.false_or, Bool.true_or, Nat.reduceBEq]
          refine drun_call' ?_
          simp only [go_sem, calV, restore, Option.join_some, maskH, List.mapIdx_cons, List.mapIdx_nil, List.contains_cons, List.contains_nil, Bool.or_false, Bool.or_true, Bool.false_or, Bool.true_or, Nat.reduceBEq]
          refine mul' hG _ _ (hfl m) (Nat.lt_trans (linv_lt _) ell_lt) ?_
          refine drun_drive 40 (p := (_, _)) ?_
          simp only [go_sem, h2, lc8, lc4, f1, f2, f3, f4, f5, f6, f7, f8, f9, e1, e2, e3, c1, c2, Nat.zero_mul, bq5, bq6, restore, Option.join_some, maskH, List.mapIdx_cons, List.mapIdx_nil, List.contains_cons, List.contains_nil, Bool.or_false, Bool.or_true, Bool.false_or, Bool.true_or, Nat.reduceBEq]
          refine drun_end ?_
          subst hz6
          refine run_driveS 80 ?_
          simp only [go_sem, v9_26, bq7]
          subst hm1
          exact run_ret_drop Tryd.func9 res9 [0, 1, 2, 3, 16, 17] (.tup [.agg (lc u ++ [.sl 4 0 1 (.exact 1), .sl 5 0 1 (.grow 4)]), .bool true]) [none, none, none, none, some ⟨.rw, scs 1 (fa0 (fac (fc0 l r p u) q (fgo (linv u) u g 1) (fgo u (linv u) h 1) lo hi 1 * linv (fkk q (fgo (linv u) u g 1) hi) % ell) lo)⟩, some ⟨.grow, scs 1 hi⟩] rfl (by simp) (hfit_cons_none (hfit_cons_none (hfit_cons_none (hfit_cons_none (hfit_cons rfl (by rw [show scs 1 (fa0 (fac (fc0 l r p u) q (fgo (linv u) u g 1) (fgo u (linv u) h 1) lo hi 1 * linv (fkk q (fgo (linv u) u g 1) hi) % ell) lo) = lc (fac (fc0 l r p u) q (fgo (linv u) u g 1) (fgo u (linv u) h 1) lo hi 1 * linv (fkk q (fgo (linv u) u g 1) hi) % ell) from rfl]; exact jb_g (lc_rens ..)) (hfit_cons rfl (jb_g (scs_rens ..)) hfit_nil)))))) (uniq_nodup' (by decide)) (by simp only [go_sem, rr9, ren, rens, gmap, rens_append, lc_rens, bq7]; rfl) (hQ hk .rw .grow _ _ rfl rfl)
        · have c1 : (m ≤ 1) = False := eq_false (by omega)
          refine run_drw (by kernel_rfl) ?_
          refine drun_drive 40 (p := (_, _)) ?_
          simp only [go_sem, v9_25, h2, lc8, lc4, f1, f2, f3, f4, f5, f6, f7, f8, f9, e1, e2, e3, e4, e5, c1, bq5, bq6, restore, Option.join_some, maskH, List.mapIdx_cons, List.mapIdx_nil, List.contains_cons, List.contains_nil, Bool.or_false, Bool.or_true, Bool.false_or, Bool.true_or, Nat.reduceBEq]
          refine drun_call' ?_
          simp only [go_sem, calV, restore, Option.join_some, maskH, List.mapIdx_cons, List.mapIdx_nil, List.contains_cons, List.contains_nil, Bool.or_false, Bool.or_true, Bool.false_or, Bool.true_or, Nat.reduceBEq]
          refine invert' hG _ (mod_lt _) ?_
          refine drun_drive 40 (p := (_, _)) ?_
          simp only [go_sem, restore, Option.join_some, maskH, List.mapIdx_cons, List.mapIdx_nil, List.contains_cons, List.contains_nil, Bool.or_false, Bool.or_true, Bool.false_or, Bool.true_or, Nat.reduceBEq]
          refine drun_call' ?_
          simp only [go_sem, calV, restore, Option.join_some, maskH, List.mapIdx_cons, List.mapIdx_nil, List.contains_cons, List.contains_nil, Bool.or_false, Bool.or_true, Bool.false_or, Bool.true_or, Nat.reduceBEq]
          refine mul' hG _ _ (hfl m) (Nat.lt_trans (linv_lt _) ell_lt) ?_
          refine drun_drive 40 (p := (_, _)) ?_
          simp only [go_sem, h2, lc8, lc4, f1, f2, f3, f4, f5, f6, f7, f8, f9, e1, e2, e3, e4, e5, c1, bq5, bq6, restore, Option.join_some, maskH, List.mapIdx_cons, List.mapIdx_nil, List.contains_cons, List.contains_nil, Bool.or_false, Bool.or_true, Bool.false_or, Bool.true_or, Nat.reduceBEq]
          refine drun_end ?_
          subst hz6
          refine run_driveS 80 ?_
          simp only [go_sem, v9_26, bq7]
          exact run_ret_drop Tryd.func9 res9 [0, 1, 2, 3, 17, 18] (.tup [.agg (lc u ++ [.sl 4 0 m (.grow 4), .sl 5 0 m (.grow 4)]), .bool true]) [none, none, none, none, some ⟨.grow, scs m (fa0 (fac (fc0 l r p u) q (fgo (linv u) u g m) (fgo u (linv u) h m) lo hi m * linv (fkk q (fgo (linv u) u g m) hi) % ell) lo)⟩, some ⟨.grow, scs m hi⟩] rfl (by simp) (hfit_cons_none (hfit_cons_none (hfit_cons_none (hfit_cons_none (hfit_cons rfl (jb_g (scs_rens ..)) (hfit_cons rfl (jb_g (scs_rens ..)) hfit_nil)))))) (uniq_nodup' (by decide)) (by simp only [go_sem, rr9, ren, rens, gmap, rens_append, lc_rens, bq7]; rfl) (hQ hk .grow .grow _ _ rfl rfl)
end
section
attribute [local go_sem ↓] lc_len lc_take lc_drop lc_known lc_one lc_rens lc_cells lw_known lw_agg lw_asG scs_known scs_one scs_len lc_take_add lc_drop_add ivl_known ivl_one
attribute [local go_sem] lt_nat lt_natl lt_lnat lt_ll bool_tf bool_ft
set_option maxRecDepth 100000
set_option maxHeartbeats 2000000
structure CaseC (C : List V) (Q' P' nG mG nH mH nA mA nB mB nL mL nR mR nU mU : Nat) (zG zH zA zB zL zR zU : Bool) : Prop where
  len : C.length = 26
  kn : C.all V.known = true
  one : C.all V.one = true
  t26 : C.take 26 = C
  d26 : C.drop 26 = []
  q : C.take 4 = lc Q'
  p : (C.drop 4).take 4 = lc P'
  g : (C.drop 8).take 1 = [ivl 0 nG mG zG]
  h : (C.drop 9).take 1 = [ivl 1 nH mH zH]
  a : (C.drop 10).take 1 = [ivl 2 nA mA zA]
  b : (C.drop 11).take 1 = [ivl 3 nB mB zB]
  l : (C.drop 12).take 1 = [ivl 4 nL mL zL]
  r : (C.drop 13).take 1 = [ivl 5 nR mR zR]
  u : (C.drop 23).take 1 = [ivl 6 nU mU zU]
  ren : ∀ f : Nat → Nat, (∀ i, i < 7 → f i = i) → rens f C = C
theorem gm_7 {μ : List Nat} {L : Nat} (rest : List Nat) (e : μ = [0, 1, 2, 3, 4, 5, 6] ++ rest) : ∀ i, i < 7 → gmap μ L i = i := by
  subst e
  intro i hi
  match i, hi with
  | 0, _ | 1, _ | 2, _ | 3, _ | 4, _ | 5, _ | 6, _ => rfl
  | n + 7, h => omega
theorem fill_at (f : Nat → Nat) (hf : ∀ j, f j < 115792089237316195423570985008687907853269984665640564039457584007913129639936) (N m n : Nat) (z : Bool) (ho : Ok N m z) (hn0 : 0 < n) (hn : n ≤ 100) (hN : N < 9223372036854775808) (p : Nat) {h : Heap} (hp : h[p]? = some (ivb f N z)) {R : V → Heap → Prop} (hR : R (.sl h.length 0 n (.grow 4)) (h ++ [some ⟨.grow, scs n (fl f N)⟩])) : VCall Tryd.prog G 6 [ivl p N m z, .int .i64 n] h R := by
  refine vcall_at (fill_ f hf N n hn0 hn hN (ivl 0 N m z) (ivb f N z) (In_iv ho) (fun v k => v = .sl 1 0 n (.grow 4) ∧ k = [ivb f N z, some ⟨.grow, scs n (fl f N)⟩]) ⟨rfl, rfl⟩) [p] ?_ (hfit_cons hp bfit_ivb hfit_nil) ?_ ?_ ?_
  · intro i hi
    obtain rfl : i = p := by simpa using hi
    exact (List.getElem?_eq_some_iff.1 hp).1
  · exact uniq_nodup' (by simp)
  · simp only [rens, ren, ivl_ren, gmap]
  · rintro v k ⟨rfl, rfl⟩
    rw [puts_ro (by simp [wrB_ivb]) rfl (by simp)]
    simpa [ren, gmap, renB, scs_rens] using hR
theorem line_of_at (f : Nat → Nat) (n : Nat) (hn0 : 0 < n) (hn : n ≤ 100) (c : Cap) (p : Nat) {h : Heap} {kd : Kind} (hk : kd.m = true) (hp : h[p]? = some (some ⟨kd, scs n f⟩)) {R : V → Heap → Prop} (hR : R (.sl h.length 0 n (.grow 4)) (h ++ [some ⟨.grow, scs n f⟩])) : VCall Tryd.prog G 5 [.sl p 0 n c] h R := by
  refine vcall_at (line_of_ f n hn0 hn c (fun v k => v = .sl 1 0 n (.grow 4) ∧ k = [some ⟨.ro, scs n f⟩, some ⟨.grow, scs n f⟩]) ⟨rfl, rfl⟩) [p] ?_ (hfit_cons hp (bfit_same (scs_rens ..) hk) hfit_nil) ?_ ?_ ?_
  · intro i hi
    obtain rfl : i = p := by simpa using hi
    exact (List.getElem?_eq_some_iff.1 hp).1
  · exact uniq_nodup' (by simp)
  · simp only [rens, ren, gmap]
  · rintro v k ⟨rfl, rfl⟩
    rw [puts_ro (by simp [wrB]) rfl (by simp)]
    simpa [ren, gmap, renB, scs_rens] using hR
theorem bx6' (u : Nat) (x y : V) : (lc u ++ [x, y]).take 6 = lc u ++ [x, y] := rfl
theorem bxd6 (u : Nat) (x y : V) : (lc u ++ [x, y]).drop 6 = [] := rfl
theorem stP (p q : Nat) (x y : V) : (lc p ++ lc q ++ [x, y]).take 10 = lc p ++ lc q ++ [x, y] := rfl
theorem law_rounds_ (hG : G 0 = tbl) (g h a b l r us : Nat → Nat) (Q' P' nG mG nH mH nA mA nB mB nL mL nR mR nU mU : Nat) (zG zH zA zB zL zR zU : Bool) (C : List V) (cC : CaseC C Q' P' nG mG nH mH nA mA nB mB nL mL nR mR nU mU zG zH zA zB zL zR zU)
    (hg : ∀ j, g j < 115792089237316195423570985008687907853269984665640564039457584007913129639936) (hh : ∀ j, h j < 115792089237316195423570985008687907853269984665640564039457584007913129639936) (ha : ∀ j, a j < 115792089237316195423570985008687907853269984665640564039457584007913129639936) (hb : ∀ j, b j < 115792089237316195423570985008687907853269984665640564039457584007913129639936) (hl : ∀ j, l j < 115792089237316195423570985008687907853269984665640564039457584007913129639936) (hr : ∀ j, r j < 115792089237316195423570985008687907853269984665640564039457584007913129639936) (hus : ∀ j, us j < 115792089237316195423570985008687907853269984665640564039457584007913129639936) (hQ : Q' < 115792089237316195423570985008687907853269984665640564039457584007913129639936) (hP : P' < 115792089237316195423570985008687907853269984665640564039457584007913129639936)
    (oG : Ok nG mG zG) (oH : Ok nH mH zH) (oA : Ok nA mA zA) (oB : Ok nB mB zB) (oL : Ok nL mL zL) (oR : Ok nR mR zR) (oU : Ok nU mU zU) (sG : nG < 9223372036854775808) (sH : nH < 9223372036854775808) (sA : nA < 9223372036854775808) (sB : nB < 9223372036854775808) (sL : nL < 9223372036854775808) (sR : nR < 9223372036854775808) (sU : nU < 9223372036854774000)
    (m : Nat) (hm : 0 < m) (hm4 : m ≤ 4) (hpw : ∃ k : Nat, k ≤ 10 ∧ 2 * m = 2 ^ k) (U : Nat → Nat) (hU : ∀ j, U j < 115792089237316195423570985008687907853269984665640564039457584007913129639936) (nz : ∀ j, j < 4 → U j % ell ≠ 0) (un : ∀ j k, j < 4 → k < 4 → j ≠ k → U j * U j % ell ≠ U k * U k % ell)
    (next : (∀ i, i < 4 → fkk Q' (fgo (linv (U i)) (U i) (fl g nG) m) (fun j => fl b nB (m + j)) % ell ≠ 0) → ∀ (k0 e0 k1 e1 k2 e2 k3 e3 : Kind) (c0 d0 c1 d1 c2 d2 c3 d3 : Cap), k0.m = true → e0.m = true → k1.m = true → e1.m = true → k2.m = true → e2.m = true → k3.m = true → e3.m = true → RunM Tryd.prog G 3 7 {} (fun v k => v = .bool true ∧ k = [ivb g nG zG, ivb h nH zH, ivb a nA zA, ivb b nB zB, ivb l nL zL, ivb r nR zR, ivb us nU zU]) ([TI.l v3_20, TI.b 0, TI.c ((VC.reg v3_22).seq (((VC.reg v3_23).seq (VC.cond (Go.Vs.A.t 111) ((VC.reg v3_24).seq VC.ret) VC.skip)).seq (((VC.reg v3_25).seq (VC.cond (Go.Vs.A.t 114) ((VC.reg v3_26).seq ((VC.reg v3_27).seq VC.ret)) VC.skip)).seq (((VC.reg v3_28).seq (VC.cond (Go.Vs.A.t 148) ((VC.reg v3_29).seq VC.ret) VC.skip)).seq ((VC.drw v3_30).seq ((VC.reg v3_31).seq (((VC.reg v3_32).seq (VC.block 2 v3_39)).seq ((VC.reg v3_40).seq VC.ret))))))))], ⟨[.unk, .ptr 7 0, .bool false, .int .i64 ((2 * m : Nat) : Int), .sl 8 0 (2 * m) (.grow 4), .sl 9 0 (2 * m) (.grow 4), .ptr 10 0, .ptr 11 0, .ptr 12 0, .sl 13 0 4 (.grow 4), .sl 22 0 4 (.grow 6), .int .i64 (4 : Nat)] ++ List.replicate 207 .unk, [ivb g nG zG, ivb h nH zH, ivb a nA zA, ivb b nB zB, ivb l nL zL, ivb r nR zR, ivb us nU zU, some ⟨.rw, C⟩, some ⟨.grow, scs (2 * m) (fl g nG)⟩, some ⟨.grow, scs (2 * m) (fl h nH)⟩, some ⟨.rw, lc P' ++ lc Q' ++ [.sl 8 0 (2 * m) (.grow 4), .sl 9 0 (2 * m) (.grow 4)]⟩, some ⟨.rw, lc (fl l nL 0)⟩, some ⟨.rw, lc (fl r nR 0)⟩, some ⟨.grow, scs 4 U⟩, some ⟨k0, scs m (fga P' Q' (fl l nL 0) (fl r nR 0) (U 0) (fl g nG) (fl h nH) (fl a nA) (fun j => fl b nB (m + j)) m)⟩, some ⟨e0, scs m (fun j => fl b nB (m + j))⟩, some ⟨k1, scs m (fga P' Q' (fl l nL 0) (fl r nR 0) (U 1) (fl g nG) (fl h nH) (fl a nA) (fun j => fl b nB (m + j)) m)⟩, some ⟨e1, scs m (fun j => fl b nB (m + j))⟩, some ⟨k2, scs m (fga P' Q' (fl l nL 0) (fl r nR 0) (U 2) (fl g nG) (fl h nH) (fl a nA) (fun j => fl b nB (m + j)) m)⟩, some ⟨e2, scs m (fun j => fl b nB (m + j))⟩, some ⟨k3, scs m (fga P' Q' (fl l nL 0) (fl r nR 0) (U 3) (fl g nG) (fl h nH) (fl a nA) (fun j => fl b nB (m + j)) m)⟩, some ⟨e3, scs m (fun j => fl b nB (m + j))⟩, some ⟨.grow, (lc (U 0) ++ [.sl 14 0 m c0, .sl 15 0 m d0]) ++ (lc (U 1) ++ [.sl 16 0 m c1, .sl 17 0 m d1]) ++ (lc (U 2) ++ [.sl 18 0 m c2, .sl 19 0 m d2]) ++ (lc (U 3) ++ [.sl 20 0 m c3, .sl 21 0 m d3])⟩]⟩)) : RunM Tryd.prog G 3 7 {} (fun v k => v = .bool true ∧ k = [ivb g nG zG, ivb h nH zH, ivb a nA zA, ivb b nB zB, ivb l nL zL, ivb r nR zR, ivb us nU zU]) ([TI.l v3_20, TI.b 0, TI.c ((VC.reg v3_22).seq (((VC.reg v3_23).seq (VC.cond (Go.Vs.A.t 111) ((VC.reg v3_24).seq VC.ret) VC.skip)).seq (((VC.reg v3_25).seq (VC.cond (Go.Vs.A.t 114) ((VC.reg v3_26).seq ((VC.reg v3_27).seq VC.ret)) VC.skip)).seq (((VC.reg v3_28).seq (VC.cond (Go.Vs.A.t 148) ((VC.reg v3_29).seq VC.ret) VC.skip)).seq ((VC.drw v3_30).seq ((VC.reg v3_31).seq (((VC.reg v3_32).seq (VC.block 2 v3_39)).seq ((VC.reg v3_40).seq VC.ret))))))))], ⟨[.unk, .ptr 7 0, .bool false, .int .i64 ((2 * m : Nat) : Int), .sl 8 0 (2 * m) (.grow 4), .sl 9 0 (2 * m) (.grow 4), .ptr 10 0, .ptr 11 0, .ptr 12 0, .sl 13 0 4 (.grow 4), .nils, .int .i64 (0 : Nat)] ++ List.replicate 207 .unk, [ivb g nG zG, ivb h nH zH, ivb a nA zA, ivb b nB zB, ivb l nL zL, ivb r nR zR, ivb us nU zU, some ⟨.rw, C⟩, some ⟨.grow, scs (2 * m) (fl g nG)⟩, some ⟨.grow, scs (2 * m) (fl h nH)⟩, some ⟨.rw, lc P' ++ lc Q' ++ [.sl 8 0 (2 * m) (.grow 4), .sl 9 0 (2 * m) (.grow 4)]⟩, some ⟨.rw, lc (fl l nL 0)⟩, some ⟨.rw, lc (fl r nR 0)⟩, some ⟨.grow, scs 4 U⟩]⟩) := by
  have hf1 := fl_lt hg nG
  have hf2 := fl_lt hh nH
  have hf3 := fl_lt ha nA
  have hf4 := fl_lt hb nB
  have hf5 := fl_lt hl nL
  have hf6 := fl_lt hr nR
  have w1 : IntKind.i64.wrap 1 = 1 := by decide
  have w2 : IntKind.i64.wrap 2 = 2 := by decide
  have w3 : IntKind.i64.wrap 3 = 3 := by decide
  have w4 : IntKind.i64.wrap 4 = 4 := by decide
  have cl := cC.len
  have cq := cC.q
  have ca := cC.a
  have cb := cC.b
  have hdv : Int.tdiv ((2 * m : Nat) : Int) 2 = (m : Int) := by rw [show ((2 * m : Nat) : Int) = (m : Int) * 2 by omega]; exact Int.mul_tdiv_cancel _ (by decide)
  have hdw : IntKind.i64.wrap (m : Int) = (m : Int) := wrap_i64 (by omega) (by omega)
  have hq2 : binI .quo .i64 ((2 * m : Nat) : Int) .i64 2 = some (.int .i64 (m : Int)) := by rw [b_quo_i _ _ (by decide), hdv, hdw]
  have f1 : ((m : Int) ≤ ((2 * m : Nat) : Int)) = True := eq_true (by omega)
  have f2 : ((m : Int) < ((2 * m : Nat) : Int)) = True := eq_true (by omega)
  have f3 : ((0 : Int) ≤ (m : Int)) = True := eq_true (by omega)
  have f4 : (((2 * m : Nat) : Int) - (m : Int)).toNat = m := by omega
  have f5 : ((m : Int) = 0) = False := eq_false (by omega)
  have f6 : (m * 4 ≤ 2 * m * 4) = True := eq_true (by omega)
  have u0 : (scs 4 U).take 4 = lc (U 0) := rfl
  have u1 : ((scs 4 U).drop 4).take 4 = lc (U 1) := rfl
  have u2 : ((scs 4 U).drop 8).take 4 = lc (U 2) := rfl
  have u3 : ((scs 4 U).drop 12).take 4 = lc (U 3) := rfl
  have er : ∀ i, i < m → ((scs (2 * m) (fl b nB)).drop (m * 4 + i * 4)).take 4 = lc (fl b nB (m + i)) := fun i hi => scs_two_get m _ hi
  refine run_loop_eq v3_20.eq_1 ?_
  refine run_driveS 80 ?_
  simp only [go_sem, v3_12, v3_18, v3_13, ca, cl]
  refine run_call' rfl ?_
  simp only [go_sem, calV]
  refine fill_at a ha nA mA (2 * m) zA oA (by omega) (by omega) sA 2 rfl ?_
  refine run_driveS 80 ?_
  simp only [go_sem]
  refine run_drw (by kernel_rfl) ?_
  refine drun_drive 40 (p := (_, _)) ?_
  simp only [go_sem, v3_14, ca, cb, cl, hq2, f1, f2, f3, f4, f5, stP, u0, restore, Option.join_some, maskH, List.mapIdx_cons, List.mapIdx_nil, List.contains_cons, List.contains_nil, Bool.or_false, Bool.or_true, Bool.false_or, Bool.true_or, Nat.reduceBEq]
  refine drun_call' ?_
  simp only [go_sem, calV, restore, Option.join_some, maskH, List.mapIdx_cons, List.mapIdx_nil, List.contains_cons, List.contains_nil, Bool.or_false, Bool.or_true, Bool.false_or, Bool.true_or, Nat.reduceBEq]
  refine fill_at b hb nB mB (2 * m) zB oB (by omega) (by omega) sB 3 rfl ?_
  refine drun_drive 40 (p := (_, _)) ?_
  simp only [go_sem, ca, cb, cl, hq2, f1, f2, f3, f4, f5, f6, stP, restore, Option.join_some, maskH, List.mapIdx_cons, List.mapIdx_nil, List.contains_cons, List.contains_nil, Bool.or_false, Bool.or_true, Bool.false_or, Bool.true_or, Nat.reduceBEq]
  refine drun_call' ?_
  simp only [go_sem, calV, restore, Option.join_some, maskH, List.mapIdx_cons, List.mapIdx_nil, List.contains_cons, List.contains_nil, Bool.or_false, Bool.or_true, Bool.false_or, Bool.true_or, Nat.reduceBEq]
  refine vcall_at (forge2_ hG P' Q' (fl l nL 0) (fl r nR 0) (U 0) hP hQ (hf5 0) (hf6 0) (hU 0) (fl g nG) (fl h nH) (fl a nA) (fun j => fl b nB (m + j)) m hf1 hf2 hf3 (fun j => hf4 _) hm hm4 (.grow 4) (.grow 4) (.grow 4) (scs (2 * m) (fl b nB)) er (fun f => scs_rens ..) (Q := fun v k => (fkk Q' (fgo (linv (U 0)) (U 0) (fl g nG) m) (fun j => fl b nB (m + j)) % ell = 0 ∧ v = .tup [.agg [.int .u64 (nl 0), .int .u64 (nl 0), .int .u64 (nl 0), .int .u64 (nl 0), .nils, .nils], .bool false] ∧ k = [none, none, none, none]) ∨ (fkk Q' (fgo (linv (U 0)) (U 0) (fl g nG) m) (fun j => fl b nB (m + j)) % ell ≠ 0 ∧ ∃ k1 k2 : Kind, ∃ c1 c2 : Cap, k1.m = true ∧ k2.m = true ∧ v = .tup [.agg (lc (U 0) ++ [.sl 4 0 m c1, .sl 5 0 m c2]), .bool true] ∧ k = [none, none, none, none, some ⟨k1, scs m (fga P' Q' (fl l nL 0) (fl r nR 0) (U 0) (fl g nG) (fl h nH) (fl a nA) (fun j => fl b nB (m + j)) m)⟩, some ⟨k2, scs m (fun j => fl b nB (m + j))⟩])) (fun hk => .inl ⟨hk, rfl, rfl⟩) (fun hk k1 k2 c1 c2 e1 e2 => .inr ⟨hk, k1, k2, c1, c2, e1, e2, rfl, rfl⟩)) [8, 9, 14, 16] (by simp) ?_ (uniq_nodup' (by decide)) ?_ ?_
  · exact hfit_cons rfl (jb_ro (scs_rens ..)) (hfit_cons rfl (jb_ro (scs_rens ..)) (hfit_cons rfl (jb_ro (scs_rens ..)) (hfit_cons rfl (jb_ro (scs_rens ..)) hfit_nil)))
  · simp only [crs4, rens, ren, gmap, lw_plain, rens_append, lc_rens]
  rintro v k (⟨hk0, rfl, rfl⟩ | ⟨hk0, k0, e0, c0, d0, mk0, me0, rfl, rfl⟩)
  · rw [puts_ro (by simp [wrB]) rfl (by simp)]
    simp only [List.map_cons, List.map_nil, Option.map_some, Option.map_none, renB, scs_rens, rens, ren, gmap, lw_plain, rens_append, lc_rens, List.drop_succ_cons, List.drop_zero, List.cons_append, List.nil_append, List.append_nil, List.length_cons, List.length_nil, Nat.reduceAdd]
    refine drun_drive 40 (p := (_, _)) ?_
    simp only [go_sem, restore, Option.join_some, maskH, List.mapIdx_cons, List.mapIdx_nil, List.contains_cons, List.contains_nil, Bool.or_false, Bool.or_true, Bool.false_or, Bool.true_or, Nat.reduceBEq]
    refine drun_end ?_
    refine run_driveS 80 ?_
    simp only [go_sem, v3_15]
    refine run_cond_t (by rfl) ?_
    refine run_driveS 80 ?_
    simp only [go_sem, v3_16]
    exact run_ret_drop Tryd.func3 res3 [0, 1, 2, 3, 4, 5, 6] (.bool true) [ivb g nG zG, ivb h nH zH, ivb a nA zA, ivb b nB zB, ivb l nL zL, ivb r nR zR, ivb us nU zU] rfl (by simp) (hfit_cons rfl bfit_ivb (hfit_cons rfl bfit_ivb (hfit_cons rfl bfit_ivb (hfit_cons rfl bfit_ivb (hfit_cons rfl bfit_ivb (hfit_cons rfl bfit_ivb (hfit_cons rfl bfit_ivb hfit_nil))))))) (uniq_nodup' (by decide)) rfl ⟨rfl, rfl⟩
  rw [puts_ro (by simp [wrB]) rfl (by simp)]
  simp only [List.map_cons, List.map_nil, Option.map_some, Option.map_none, renB, scs_rens, rens, ren, gmap, lw_plain, rens_append, lc_rens, List.drop_succ_cons, List.drop_zero, List.cons_append, List.nil_append, List.append_nil, List.length_cons, List.length_nil, Nat.reduceAdd]
  refine drun_drive 40 (p := (_, _)) ?_
  simp only [go_sem, restore, Option.join_some, maskH, List.mapIdx_cons, List.mapIdx_nil, List.contains_cons, List.contains_nil, Bool.or_false, Bool.or_true, Bool.false_or, Bool.true_or, Nat.reduceBEq]
  refine drun_end ?_
  refine run_driveS 80 ?_
  simp only [go_sem, v3_15]
  refine run_cond_f (by rfl) ?_
  refine run_driveS 80 ?_
  simp only [go_sem, v3_17, v3_19, w1, bx6', bxd6]
  refine run_rename [0, 1, 2, 3, 4, 5, 6, 7, 8, 9, 10, 11, 12, 13, 17, 18, 20] (st' := ⟨[.unk, .ptr 7 0, .bool false, .int .i64 ((2 * m : Nat) : Int), .sl 8 0 (2 * m) (.grow 4), .sl 9 0 (2 * m) (.grow 4), .ptr 10 0, .ptr 11 0, .ptr 12 0, .sl 13 0 4 (.grow 4), .sl 16 0 1 (.grow 6), .int .i64 (1 : Nat)] ++ List.replicate 207 .unk, [ivb g nG zG, ivb h nH zH, ivb a nA zA, ivb b nB zB, ivb l nL zL, ivb r nR zR, ivb us nU zU, some ⟨.rw, C⟩, some ⟨.grow, scs (2 * m) (fl g nG)⟩, some ⟨.grow, scs (2 * m) (fl h nH)⟩, some ⟨.rw, lc P' ++ lc Q' ++ [.sl 8 0 (2 * m) (.grow 4), .sl 9 0 (2 * m) (.grow 4)]⟩, some ⟨.rw, lc (fl l nL 0)⟩, some ⟨.rw, lc (fl r nR 0)⟩, some ⟨.grow, scs 4 U⟩, some ⟨k0, scs m (fga P' Q' (fl l nL 0) (fl r nR 0) (U 0) (fl g nG) (fl h nH) (fl a nA) (fun j => fl b nB (m + j)) m)⟩, some ⟨e0, scs m (fun j => fl b nB (m + j))⟩, some ⟨.grow, (lc (U 0) ++ [.sl 14 0 m c0, .sl 15 0 m d0])⟩]⟩) rfl (by simp) ?_ (uniq_nodup' (by decide)) ?_ ?_
  · exact hfit_cons rfl bfit_ivb (hfit_cons rfl bfit_ivb (hfit_cons rfl bfit_ivb (hfit_cons rfl bfit_ivb (hfit_cons rfl bfit_ivb (hfit_cons rfl bfit_ivb (hfit_cons rfl bfit_ivb (hfit_cons rfl (jb_g (cC.ren _ fun i hi => gm_7 _ rfl i hi)) (hfit_cons rfl (jb_g (scs_rens ..)) (hfit_cons rfl (jb_g (scs_rens ..)) (hfit_cons rfl (jb_g (by simp only [rens_append, lc_rens]; rfl)) (hfit_cons rfl (jb_g (lc_rens ..)) (hfit_cons rfl (jb_g (lc_rens ..)) (hfit_cons rfl (jb_g (scs_rens ..)) (hfit_cons rfl (jb_g (scs_rens ..)) (hfit_cons rfl (jb_g (scs_rens ..)) (hfit_cons rfl (jb_rw (by simp only [rens_append, lc_rens, rens, ren, gmap])) hfit_nil))))))))))))))))
  · simp only [go_sem, fit, ren, gmap, true_or, or_true]
  refine run_loop_eq v3_20.eq_1 ?_
  refine run_driveS 80 ?_
  simp only [go_sem, v3_12, v3_18, v3_13, ca, cl]
  refine run_call' rfl ?_
  simp only [go_sem, calV]
  refine fill_at a ha nA mA (2 * m) zA oA (by omega) (by omega) sA 2 rfl ?_
  refine run_driveS 80 ?_
  simp only [go_sem]
  refine run_drw (by kernel_rfl) ?_
  refine drun_drive 40 (p := (_, _)) ?_
  simp only [go_sem, v3_14, ca, cb, cl, hq2, f1, f2, f3, f4, f5, stP, u1, restore, Option.join_some, maskH, List.mapIdx_cons, List.mapIdx_nil, List.contains_cons, List.contains_nil, Bool.or_false, Bool.or_true, Bool.false_or, Bool.true_or, Nat.reduceBEq]
  refine drun_call' ?_
  simp only [go_sem, calV, restore, Option.join_some, maskH, List.mapIdx_cons, List.mapIdx_nil, List.contains_cons, List.contains_nil, Bool.or_false, Bool.or_true, Bool.false_or, Bool.true_or, Nat.reduceBEq]
  refine fill_at b hb nB mB (2 * m) zB oB (by omega) (by omega) sB 3 rfl ?_
  refine drun_drive 40 (p := (_, _)) ?_
  simp only [go_sem, ca, cb, cl, hq2, f1, f2, f3, f4, f5, f6, stP, restore, Option.join_some, maskH, List.mapIdx_cons, List.mapIdx_nil, List.contains_cons, List.contains_nil, Bool.or_false, Bool.or_true, Bool.false_or, Bool.true_or, Nat.reduceBEq]
  refine drun_call' ?_
  simp only [go_sem, calV, restore, Option.join_some, maskH, List.mapIdx_cons, List.mapIdx_nil, List.contains_cons, List.contains_nil, Bool.or_false, Bool.or_true, Bool.false_or, Bool.true_or, Nat.reduceBEq]
  refine vcall_at (forge2_ hG P' Q' (fl l nL 0) (fl r nR 0) (U 1) hP hQ (hf5 0) (hf6 0) (hU 1) (fl g nG) (fl h nH) (fl a nA) (fun j => fl b nB (m + j)) m hf1 hf2 hf3 (fun j => hf4 _) hm hm4 (.grow 4) (.grow 4) (.grow 4) (scs (2 * m) (fl b nB)) er (fun f => scs_rens ..) (Q := fun v k => (fkk Q' (fgo (linv (U 1)) (U 1) (fl g nG) m) (fun j => fl b nB (m + j)) % ell = 0 ∧ v = .tup [.agg [.int .u64 (nl 0), .int .u64 (nl 0), .int .u64 (nl 0), .int .u64 (nl 0), .nils, .nils], .bool false] ∧ k = [none, none, none, none]) ∨ (fkk Q' (fgo (linv (U 1)) (U 1) (fl g nG) m) (fun j => fl b nB (m + j)) % ell ≠ 0 ∧ ∃ k1 k2 : Kind, ∃ c1 c2 : Cap, k1.m = true ∧ k2.m = true ∧ v = .tup [.agg (lc (U 1) ++ [.sl 4 0 m c1, .sl 5 0 m c2]), .bool true] ∧ k = [none, none, none, none, some ⟨k1, scs m (fga P' Q' (fl l nL 0) (fl r nR 0) (U 1) (fl g nG) (fl h nH) (fl a nA) (fun j => fl b nB (m + j)) m)⟩, some ⟨k2, scs m (fun j => fl b nB (m + j))⟩])) (fun hk => .inl ⟨hk, rfl, rfl⟩) (fun hk k1 k2 c1 c2 e1 e2 => .inr ⟨hk, k1, k2, c1, c2, e1, e2, rfl, rfl⟩)) [8, 9, 17, 19] (by simp) ?_ (uniq_nodup' (by decide)) ?_ ?_
  · exact hfit_cons rfl (jb_ro (scs_rens ..)) (hfit_cons rfl (jb_ro (scs_rens ..)) (hfit_cons rfl (jb_ro (scs_rens ..)) (hfit_cons rfl (jb_ro (scs_rens ..)) hfit_nil)))
  · simp only [crs4, rens, ren, gmap, lw_plain, rens_append, lc_rens]
  rintro v k (⟨hk1, rfl, rfl⟩ | ⟨hk1, k1, e1, c1, d1, mk1, me1, rfl, rfl⟩)
  · rw [puts_ro (by simp [wrB]) rfl (by simp)]
    simp only [List.map_cons, List.map_nil, Option.map_some, Option.map_none, renB, scs_rens, rens, ren, gmap, lw_plain, rens_append, lc_rens, List.drop_succ_cons, List.drop_zero, List.cons_append, List.nil_append, List.append_nil, List.length_cons, List.length_nil, Nat.reduceAdd]
    refine drun_drive 40 (p := (_, _)) ?_
    simp only [go_sem, restore, Option.join_some, maskH, List.mapIdx_cons, List.mapIdx_nil, List.contains_cons, List.contains_nil, Bool.or_false, Bool.or_true, Bool.false_or, Bool.true_or, Nat.reduceBEq]
    refine drun_end ?_
    refine run_driveS 80 ?_
    simp only [go_sem, v3_15]
    refine run_cond_t (by rfl) ?_
    refine run_driveS 80 ?_
    simp only [go_sem, v3_16]
    exact run_ret_drop Tryd.func3 res3 [0, 1, 2, 3, 4, 5, 6] (.bool true) [ivb g nG zG, ivb h nH zH, ivb a nA zA, ivb b nB zB, ivb l nL zL, ivb r nR zR, ivb us nU zU] rfl (by simp) (hfit_cons rfl bfit_ivb (hfit_cons rfl bfit_ivb (hfit_cons rfl bfit_ivb (hfit_cons rfl bfit_ivb (hfit_cons rfl bfit_ivb (hfit_cons rfl bfit_ivb (hfit_cons rfl bfit_ivb hfit_nil))))))) (uniq_nodup' (by decide)) rfl ⟨rfl, rfl⟩
  rw [puts_ro (by simp [wrB]) rfl (by simp)]
  simp only [List.map_cons, List.map_nil, Option.map_some, Option.map_none, renB, scs_rens, rens, ren, gmap, lw_plain, rens_append, lc_rens, List.drop_succ_cons, List.drop_zero, List.cons_append, List.nil_append, List.append_nil, List.length_cons, List.length_nil, Nat.reduceAdd]
  refine drun_drive 40 (p := (_, _)) ?_
  simp only [go_sem, restore, Option.join_some, maskH, List.mapIdx_cons, List.mapIdx_nil, List.contains_cons, List.contains_nil, Bool.or_false, Bool.or_true, Bool.false_or, Bool.true_or, Nat.reduceBEq]
  refine drun_end ?_
  refine run_driveS 80 ?_
  simp only [go_sem, v3_15]
  refine run_cond_f (by rfl) ?_
  refine run_driveS 80 ?_
  simp only [go_sem, v3_17, v3_19, w2, bx6', bxd6]
  refine run_rename [0, 1, 2, 3, 4, 5, 6, 7, 8, 9, 10, 11, 12, 13, 14, 15, 20, 21, 23] (st' := ⟨[.unk, .ptr 7 0, .bool false, .int .i64 ((2 * m : Nat) : Int), .sl 8 0 (2 * m) (.grow 4), .sl 9 0 (2 * m) (.grow 4), .ptr 10 0, .ptr 11 0, .ptr 12 0, .sl 13 0 4 (.grow 4), .sl 18 0 2 (.grow 6), .int .i64 (2 : Nat)] ++ List.replicate 207 .unk, [ivb g nG zG, ivb h nH zH, ivb a nA zA, ivb b nB zB, ivb l nL zL, ivb r nR zR, ivb us nU zU, some ⟨.rw, C⟩, some ⟨.grow, scs (2 * m) (fl g nG)⟩, some ⟨.grow, scs (2 * m) (fl h nH)⟩, some ⟨.rw, lc P' ++ lc Q' ++ [.sl 8 0 (2 * m) (.grow 4), .sl 9 0 (2 * m) (.grow 4)]⟩, some ⟨.rw, lc (fl l nL 0)⟩, some ⟨.rw, lc (fl r nR 0)⟩, some ⟨.grow, scs 4 U⟩, some ⟨k0, scs m (fga P' Q' (fl l nL 0) (fl r nR 0) (U 0) (fl g nG) (fl h nH) (fl a nA) (fun j => fl b nB (m + j)) m)⟩, some ⟨e0, scs m (fun j => fl b nB (m + j))⟩, some ⟨k1, scs m (fga P' Q' (fl l nL 0) (fl r nR 0) (U 1) (fl g nG) (fl h nH) (fl a nA) (fun j => fl b nB (m + j)) m)⟩, some ⟨e1, scs m (fun j => fl b nB (m + j))⟩, some ⟨.grow, (lc (U 0) ++ [.sl 14 0 m c0, .sl 15 0 m d0]) ++ (lc (U 1) ++ [.sl 16 0 m c1, .sl 17 0 m d1])⟩]⟩) rfl (by simp) ?_ (uniq_nodup' (by decide)) ?_ ?_
  · exact hfit_cons rfl bfit_ivb (hfit_cons rfl bfit_ivb (hfit_cons rfl bfit_ivb (hfit_cons rfl bfit_ivb (hfit_cons rfl bfit_ivb (hfit_cons rfl bfit_ivb (hfit_cons rfl bfit_ivb (hfit_cons rfl (jb_g (cC.ren _ fun i hi => gm_7 _ rfl i hi)) (hfit_cons rfl (jb_g (scs_rens ..)) (hfit_cons rfl (jb_g (scs_rens ..)) (hfit_cons rfl (jb_g (by simp only [rens_append, lc_rens]; rfl)) (hfit_cons rfl (jb_g (lc_rens ..)) (hfit_cons rfl (jb_g (lc_rens ..)) (hfit_cons rfl (jb_g (scs_rens ..)) (hfit_cons rfl (jb_g (scs_rens ..)) (hfit_cons rfl (jb_g (scs_rens ..)) (hfit_cons rfl (jb_g (scs_rens ..)) (hfit_cons rfl (jb_g (scs_rens ..)) (hfit_cons rfl (jb_rw (by simp only [rens_append, lc_rens, rens, ren, gmap])) hfit_nil))))))))))))))))))
  · simp only [go_sem, fit, ren, gmap, true_or, or_true]
  refine run_loop_eq v3_20.eq_1 ?_
  refine run_driveS 80 ?_
  simp only [go_sem, v3_12, v3_18, v3_13, ca, cl]
  refine run_call' rfl ?_
  simp only [go_sem, calV]
  refine fill_at a ha nA mA (2 * m) zA oA (by omega) (by omega) sA 2 rfl ?_
  refine run_driveS 80 ?_
  simp only [go_sem]
  refine run_drw (by kernel_rfl) ?_
  refine drun_drive 40 (p := (_, _)) ?_
  simp only [go_sem, v3_14, ca, cb, cl, hq2, f1, f2, f3, f4, f5, stP, u2, restore, Option.join_some, maskH, List.mapIdx_cons, List.mapIdx_nil, List.contains_cons, List.contains_nil, Bool.or_false, Bool.or_true, Bool.false_or, Bool.true_or, Nat.reduceBEq]
  refine drun_call' ?_
  simp only [go_sem, calV, restore, Option.join_some, maskH, List.mapIdx_cons, List.mapIdx_nil, List.contains_cons, List.contains_nil, Bool.or_false, Bool.or_true, Bool.false_or, Bool.true_or, Nat.reduceBEq]
  refine fill_at b hb nB mB (2 * m) zB oB (by omega) (by omega) sB 3 rfl ?_
  refine drun_drive 40 (p := (_, _)) ?_
  simp only [go_sem, ca, cb, cl, hq2, f1, f2, f3, f4, f5, f6, stP, restore, Option.join_some, maskH, List.mapIdx_cons, List.mapIdx_nil, List.contains_cons, List.contains_nil, Bool.or_false, Bool.or_true, Bool.false_or, Bool.true_or, Nat.reduceBEq]
  refine drun_call' ?_
  simp only [go_sem, calV, restore, Option.join_some, maskH, List.mapIdx_cons, List.mapIdx_nil, List.contains_cons, List.contains_nil, Bool.or_false, Bool.or_true, Bool.false_or, Bool.true_or, Nat.reduceBEq]
  refine vcall_at (forge2_ hG P' Q' (fl l nL 0) (fl r nR 0) (U 2) hP hQ (hf5 0) (hf6 0) (hU 2) (fl g nG) (fl h nH) (fl a nA) (fun j => fl b nB (m + j)) m hf1 hf2 hf3 (fun j => hf4 _) hm hm4 (.grow 4) (.grow 4) (.grow 4) (scs (2 * m) (fl b nB)) er (fun f => scs_rens ..) (Q := fun v k => (fkk Q' (fgo (linv (U 2)) (U 2) (fl g nG) m) (fun j => fl b nB (m + j)) % ell = 0 ∧ v = .tup [.agg [.int .u64 (nl 0), .int .u64 (nl 0), .int .u64 (nl 0), .int .u64 (nl 0), .nils, .nils], .bool false] ∧ k = [none, none, none, none]) ∨ (fkk Q' (fgo (linv (U 2)) (U 2) (fl g nG) m) (fun j => fl b nB (m + j)) % ell ≠ 0 ∧ ∃ k1 k2 : Kind, ∃ c1 c2 : Cap, k1.m = true ∧ k2.m = true ∧ v = .tup [.agg (lc (U 2) ++ [.sl 4 0 m c1, .sl 5 0 m c2]), .bool true] ∧ k = [none, none, none, none, some ⟨k1, scs m (fga P' Q' (fl l nL 0) (fl r nR 0) (U 2) (fl g nG) (fl h nH) (fl a nA) (fun j => fl b nB (m + j)) m)⟩, some ⟨k2, scs m (fun j => fl b nB (m + j))⟩])) (fun hk => .inl ⟨hk, rfl, rfl⟩) (fun hk k1 k2 c1 c2 e1 e2 => .inr ⟨hk, k1, k2, c1, c2, e1, e2, rfl, rfl⟩)) [8, 9, 19, 21] (by simp) ?_ (uniq_nodup' (by decide)) ?_ ?_
  · exact hfit_cons rfl (jb_ro (scs_rens ..)) (hfit_cons rfl (jb_ro (scs_rens ..)) (hfit_cons rfl (jb_ro (scs_rens ..)) (hfit_cons rfl (jb_ro (scs_rens ..)) hfit_nil)))
  · simp only [crs4, rens, ren, gmap, lw_plain, rens_append, lc_rens]
  rintro v k (⟨hk2, rfl, rfl⟩ | ⟨hk2, k2, e2, c2, d2, mk2, me2, rfl, rfl⟩)
  · rw [puts_ro (by simp [wrB]) rfl (by simp)]
    simp only [List.map_cons, List.map_nil, Option.map_some, Option.map_none, renB, scs_rens, rens, ren, gmap, lw_plain, rens_append, lc_rens, List.drop_succ_cons, List.drop_zero, List.cons_append, List.nil_append, List.append_nil, List.length_cons, List.length_nil, Nat.reduceAdd]
    refine drun_drive 40 (p := (_, _)) ?_
    simp only [go_sem, restore, Option.join_some, maskH, List.mapIdx_cons, List.mapIdx_nil, List.contains_cons, List.contains_nil, Bool.or_false, Bool.or_true, Bool.false_or, Bool.true_or, Nat.reduceBEq]
    refine drun_end ?_
    refine run_driveS 80 ?_
    simp only [go_sem, v3_15]
    refine run_cond_t (by rfl) ?_
    refine run_driveS 80 ?_
    simp only [go_sem, v3_16]
    exact run_ret_drop Tryd.func3 res3 [0, 1, 2, 3, 4, 5, 6] (.bool true) [ivb g nG zG, ivb h nH zH, ivb a nA zA, ivb b nB zB, ivb l nL zL, ivb r nR zR, ivb us nU zU] rfl (by simp) (hfit_cons rfl bfit_ivb (hfit_cons rfl bfit_ivb (hfit_cons rfl bfit_ivb (hfit_cons rfl bfit_ivb (hfit_cons rfl bfit_ivb (hfit_cons rfl bfit_ivb (hfit_cons rfl bfit_ivb hfit_nil))))))) (uniq_nodup' (by decide)) rfl ⟨rfl, rfl⟩
  rw [puts_ro (by simp [wrB]) rfl (by simp)]
  simp only [List.map_cons, List.map_nil, Option.map_some, Option.map_none, renB, scs_rens, rens, ren, gmap, lw_plain, rens_append, lc_rens, List.drop_succ_cons, List.drop_zero, List.cons_append, List.nil_append, List.append_nil, List.length_cons, List.length_nil, Nat.reduceAdd]
  refine drun_drive 40 (p := (_, _)) ?_
  simp only [go_sem, restore, Option.join_some, maskH, List.mapIdx_cons, List.mapIdx_nil, List.contains_cons, List.contains_nil, Bool.or_false, Bool.or_true, Bool.false_or, Bool.true_or, Nat.reduceBEq]
  refine drun_end ?_
  refine run_driveS 80 ?_
  simp only [go_sem, v3_15]
  refine run_cond_f (by rfl) ?_
  refine run_driveS 80 ?_
  simp only [go_sem, v3_17, v3_19, w3, bx6', bxd6]
  refine run_rename [0, 1, 2, 3, 4, 5, 6, 7, 8, 9, 10, 11, 12, 13, 14, 15, 16, 17, 22, 23, 25] (st' := ⟨[.unk, .ptr 7 0, .bool false, .int .i64 ((2 * m : Nat) : Int), .sl 8 0 (2 * m) (.grow 4), .sl 9 0 (2 * m) (.grow 4), .ptr 10 0, .ptr 11 0, .ptr 12 0, .sl 13 0 4 (.grow 4), .sl 20 0 3 (.grow 6), .int .i64 (3 : Nat)] ++ List.replicate 207 .unk, [ivb g nG zG, ivb h nH zH, ivb a nA zA, ivb b nB zB, ivb l nL zL, ivb r nR zR, ivb us nU zU, some ⟨.rw, C⟩, some ⟨.grow, scs (2 * m) (fl g nG)⟩, some ⟨.grow, scs (2 * m) (fl h nH)⟩, some ⟨.rw, lc P' ++ lc Q' ++ [.sl 8 0 (2 * m) (.grow 4), .sl 9 0 (2 * m) (.grow 4)]⟩, some ⟨.rw, lc (fl l nL 0)⟩, some ⟨.rw, lc (fl r nR 0)⟩, some ⟨.grow, scs 4 U⟩, some ⟨k0, scs m (fga P' Q' (fl l nL 0) (fl r nR 0) (U 0) (fl g nG) (fl h nH) (fl a nA) (fun j => fl b nB (m + j)) m)⟩, some ⟨e0, scs m (fun j => fl b nB (m + j))⟩, some ⟨k1, scs m (fga P' Q' (fl l nL 0) (fl r nR 0) (U 1) (fl g nG) (fl h nH) (fl a nA) (fun j => fl b nB (m + j)) m)⟩, some ⟨e1, scs m (fun j => fl b nB (m + j))⟩, some ⟨k2, scs m (fga P' Q' (fl l nL 0) (fl r nR 0) (U 2) (fl g nG) (fl h nH) (fl a nA) (fun j => fl b nB (m + j)) m)⟩, some ⟨e2, scs m (fun j => fl b nB (m + j))⟩, some ⟨.grow, (lc (U 0) ++ [.sl 14 0 m c0, .sl 15 0 m d0]) ++ (lc (U 1) ++ [.sl 16 0 m c1, .sl 17 0 m d1]) ++ (lc (U 2) ++ [.sl 18 0 m c2, .sl 19 0 m d2])⟩]⟩) rfl (by simp) ?_ (uniq_nodup' (by decide)) ?_ ?_
  · exact hfit_cons rfl bfit_ivb (hfit_cons rfl bfit_ivb (hfit_cons rfl bfit_ivb (hfit_cons rfl bfit_ivb (hfit_cons rfl bfit_ivb (hfit_cons rfl bfit_ivb (hfit_cons rfl bfit_ivb (hfit_cons rfl (jb_g (cC.ren _ fun i hi => gm_7 _ rfl i hi)) (hfit_cons rfl (jb_g (scs_rens ..)) (hfit_cons rfl (jb_g (scs_rens ..)) (hfit_cons rfl (jb_g (by simp only [rens_append, lc_rens]; rfl)) (hfit_cons rfl (jb_g (lc_rens ..)) (hfit_cons rfl (jb_g (lc_rens ..)) (hfit_cons rfl (jb_g (scs_rens ..)) (hfit_cons rfl (jb_g (scs_rens ..)) (hfit_cons rfl (jb_g (scs_rens ..)) (hfit_cons rfl (jb_g (scs_rens ..)) (hfit_cons rfl (jb_g (scs_rens ..)) (hfit_cons rfl (jb_g (scs_rens ..)) (hfit_cons rfl (jb_g (scs_rens ..)) (hfit_cons rfl (jb_rw (by simp only [rens_append, lc_rens, rens, ren, gmap])) hfit_nil))))))))))))))))))))
  · simp only [go_sem, fit, ren, gmap, true_or, or_true]
  refine run_loop_eq v3_20.eq_1 ?_
  refine run_driveS 80 ?_
  simp only [go_sem, v3_12, v3_18, v3_13, ca, cl]
  refine run_call' rfl ?_
  simp only [go_sem, calV]
  refine fill_at a ha nA mA (2 * m) zA oA (by omega) (by omega) sA 2 rfl ?_
  refine run_driveS 80 ?_
  simp only [go_sem]
  refine run_drw (by kernel_rfl) ?_
  refine drun_drive 40 (p := (_, _)) ?_
  simp only [go_sem, v3_14, ca, cb, cl, hq2, f1, f2, f3, f4, f5, stP, u3, restore, Option.join_some, maskH, List.mapIdx_cons, List.mapIdx_nil, List.contains_cons, List.contains_nil, Bool.or_false, Bool.or_true, Bool.false_or, Bool.true_or, Nat.reduceBEq]
  refine drun_call' ?_
  simp only [go_sem, calV, restore, Option.join_some, maskH, List.mapIdx_cons, List.mapIdx_nil, List.contains_cons, List.contains_nil, Bool.or_false, Bool.or_true, Bool.false_or, Bool.true_or, Nat.reduceBEq]
  refine fill_at b hb nB mB (2 * m) zB oB (by omega) (by omega) sB 3 rfl ?_
  refine drun_drive 40 (p := (_, _)) ?_
  simp only [go_sem, ca, cb, cl, hq2, f1, f2, f3, f4, f5, f6, stP, restore, Option.join_some, maskH, List.mapIdx_cons, List.mapIdx_nil, List.contains_cons, List.contains_nil, Bool.or_false, Bool.or_true, Bool.false_or, Bool.true_or, Nat.reduceBEq]
  refine drun_call' ?_
  simp only [go_sem, calV, restore, Option.join_some, maskH, List.mapIdx_cons, List.mapIdx_nil, List.contains_cons, List.contains_nil, Bool.or_false, Bool.or_true, Bool.false_or, Bool.true_or, Nat.reduceBEq]
  refine vcall_at (forge2_ hG P' Q' (fl l nL 0) (fl r nR 0) (U 3) hP hQ (hf5 0) (hf6 0) (hU 3) (fl g nG) (fl h nH) (fl a nA) (fun j => fl b nB (m + j)) m hf1 hf2 hf3 (fun j => hf4 _) hm hm4 (.grow 4) (.grow 4) (.grow 4) (scs (2 * m) (fl b nB)) er (fun f => scs_rens ..) (Q := fun v k => (fkk Q' (fgo (linv (U 3)) (U 3) (fl g nG) m) (fun j => fl b nB (m + j)) % ell = 0 ∧ v = .tup [.agg [.int .u64 (nl 0), .int .u64 (nl 0), .int .u64 (nl 0), .int .u64 (nl 0), .nils, .nils], .bool false] ∧ k = [none, none, none, none]) ∨ (fkk Q' (fgo (linv (U 3)) (U 3) (fl g nG) m) (fun j => fl b nB (m + j)) % ell ≠ 0 ∧ ∃ k1 k2 : Kind, ∃ c1 c2 : Cap, k1.m = true ∧ k2.m = true ∧ v = .tup [.agg (lc (U 3) ++ [.sl 4 0 m c1, .sl 5 0 m c2]), .bool true] ∧ k = [none, none, none, none, some ⟨k1, scs m (fga P' Q' (fl l nL 0) (fl r nR 0) (U 3) (fl g nG) (fl h nH) (fl a nA) (fun j => fl b nB (m + j)) m)⟩, some ⟨k2, scs m (fun j => fl b nB (m + j))⟩])) (fun hk => .inl ⟨hk, rfl, rfl⟩) (fun hk k1 k2 c1 c2 e1 e2 => .inr ⟨hk, k1, k2, c1, c2, e1, e2, rfl, rfl⟩)) [8, 9, 21, 23] (by simp) ?_ (uniq_nodup' (by decide)) ?_ ?_
  · exact hfit_cons rfl (jb_ro (scs_rens ..)) (hfit_cons rfl (jb_ro (scs_rens ..)) (hfit_cons rfl (jb_ro (scs_rens ..)) (hfit_cons rfl (jb_ro (scs_rens ..)) hfit_nil)))
  · simp only [crs4, rens, ren, gmap, lw_plain, rens_append, lc_rens]
  rintro v k (⟨hk3, rfl, rfl⟩ | ⟨hk3, k3, e3, c3, d3, mk3, me3, rfl, rfl⟩)
  · rw [puts_ro (by simp [wrB]) rfl (by simp)]
    simp only [List.map_cons, List.map_nil, Option.map_some, Option.map_none, renB, scs_rens, rens, ren, gmap, lw_plain, rens_append, lc_rens, List.drop_succ_cons, List.drop_zero, List.cons_append, List.nil_append, List.append_nil, List.length_cons, List.length_nil, Nat.reduceAdd]
    refine drun_drive 40 (p := (_, _)) ?_
    simp only [go_sem, restore, Option.join_some, maskH, List.mapIdx_cons, List.mapIdx_nil, List.contains_cons, List.contains_nil, Bool.or_false, Bool.or_true, Bool.false_or, Bool.true_or, Nat.reduceBEq]
    refine drun_end ?_
    refine run_driveS 80 ?_
    simp only [go_sem, v3_15]
    refine run_cond_t (by rfl) ?_
    refine run_driveS 80 ?_
    simp only [go_sem, v3_16]
    exact run_ret_drop Tryd.func3 res3 [0, 1, 2, 3, 4, 5, 6] (.bool true) [ivb g nG zG, ivb h nH zH, ivb a nA zA, ivb b nB zB, ivb l nL zL, ivb r nR zR, ivb us nU zU] rfl (by simp) (hfit_cons rfl bfit_ivb (hfit_cons rfl bfit_ivb (hfit_cons rfl bfit_ivb (hfit_cons rfl bfit_ivb (hfit_cons rfl bfit_ivb (hfit_cons rfl bfit_ivb (hfit_cons rfl bfit_ivb hfit_nil))))))) (uniq_nodup' (by decide)) rfl ⟨rfl, rfl⟩
  rw [puts_ro (by simp [wrB]) rfl (by simp)]
  simp only [List.map_cons, List.map_nil, Option.map_some, Option.map_none, renB, scs_rens, rens, ren, gmap, lw_plain, rens_append, lc_rens, List.drop_succ_cons, List.drop_zero, List.cons_append, List.nil_append, List.append_nil, List.length_cons, List.length_nil, Nat.reduceAdd]
  refine drun_drive 40 (p := (_, _)) ?_
  simp only [go_sem, restore, Option.join_some, maskH, List.mapIdx_cons, List.mapIdx_nil, List.contains_cons, List.contains_nil, Bool.or_false, Bool.or_true, Bool.false_or, Bool.true_or, Nat.reduceBEq]
  refine drun_end ?_
  refine run_driveS 80 ?_
  simp only [go_sem, v3_15]
  refine run_cond_f (by rfl) ?_
  refine run_driveS 80 ?_
  simp only [go_sem, v3_17, v3_19, w4, bx6', bxd6]
  refine run_rename [0, 1, 2, 3, 4, 5, 6, 7, 8, 9, 10, 11, 12, 13, 14, 15, 16, 17, 18, 19, 24, 25, 27] (st' := ⟨[.unk, .ptr 7 0, .bool false, .int .i64 ((2 * m : Nat) : Int), .sl 8 0 (2 * m) (.grow 4), .sl 9 0 (2 * m) (.grow 4), .ptr 10 0, .ptr 11 0, .ptr 12 0, .sl 13 0 4 (.grow 4), .sl 22 0 4 (.grow 6), .int .i64 (4 : Nat)] ++ List.replicate 207 .unk, [ivb g nG zG, ivb h nH zH, ivb a nA zA, ivb b nB zB, ivb l nL zL, ivb r nR zR, ivb us nU zU, some ⟨.rw, C⟩, some ⟨.grow, scs (2 * m) (fl g nG)⟩, some ⟨.grow, scs (2 * m) (fl h nH)⟩, some ⟨.rw, lc P' ++ lc Q' ++ [.sl 8 0 (2 * m) (.grow 4), .sl 9 0 (2 * m) (.grow 4)]⟩, some ⟨.rw, lc (fl l nL 0)⟩, some ⟨.rw, lc (fl r nR 0)⟩, some ⟨.grow, scs 4 U⟩, some ⟨k0, scs m (fga P' Q' (fl l nL 0) (fl r nR 0) (U 0) (fl g nG) (fl h nH) (fl a nA) (fun j => fl b nB (m + j)) m)⟩, some ⟨e0, scs m (fun j => fl b nB (m + j))⟩, some ⟨k1, scs m (fga P' Q' (fl l nL 0) (fl r nR 0) (U 1) (fl g nG) (fl h nH) (fl a nA) (fun j => fl b nB (m + j)) m)⟩, some ⟨e1, scs m (fun j => fl b nB (m + j))⟩, some ⟨k2, scs m (fga P' Q' (fl l nL 0) (fl r nR 0) (U 2) (fl g nG) (fl h nH) (fl a nA) (fun j => fl b nB (m + j)) m)⟩, some ⟨e2, scs m (fun j => fl b nB (m + j))⟩, some ⟨k3, scs m (fga P' Q' (fl l nL 0) (fl r nR 0) (U 3) (fl g nG) (fl h nH) (fl a nA) (fun j => fl b nB (m + j)) m)⟩, some ⟨e3, scs m (fun j => fl b nB (m + j))⟩, some ⟨.grow, (lc (U 0) ++ [.sl 14 0 m c0, .sl 15 0 m d0]) ++ (lc (U 1) ++ [.sl 16 0 m c1, .sl 17 0 m d1]) ++ (lc (U 2) ++ [.sl 18 0 m c2, .sl 19 0 m d2]) ++ (lc (U 3) ++ [.sl 20 0 m c3, .sl 21 0 m d3])⟩]⟩) rfl (by simp) ?_ (uniq_nodup' (by decide)) ?_ ?_
  · exact hfit_cons rfl bfit_ivb (hfit_cons rfl bfit_ivb (hfit_cons rfl bfit_ivb (hfit_cons rfl bfit_ivb (hfit_cons rfl bfit_ivb (hfit_cons rfl bfit_ivb (hfit_cons rfl bfit_ivb (hfit_cons rfl (jb_g (cC.ren _ fun i hi => gm_7 _ rfl i hi)) (hfit_cons rfl (jb_g (scs_rens ..)) (hfit_cons rfl (jb_g (scs_rens ..)) (hfit_cons rfl (jb_g (by simp only [rens_append, lc_rens]; rfl)) (hfit_cons rfl (jb_g (lc_rens ..)) (hfit_cons rfl (jb_g (lc_rens ..)) (hfit_cons rfl (jb_g (scs_rens ..)) (hfit_cons rfl (jb_g (scs_rens ..)) (hfit_cons rfl (jb_g (scs_rens ..)) (hfit_cons rfl (jb_g (scs_rens ..)) (hfit_cons rfl (jb_g (scs_rens ..)) (hfit_cons rfl (jb_g (scs_rens ..)) (hfit_cons rfl (jb_g (scs_rens ..)) (hfit_cons rfl (jb_g (scs_rens ..)) (hfit_cons rfl (jb_g (scs_rens ..)) (hfit_cons rfl (jb_rw (by simp only [rens_append, lc_rens, rens, ren, gmap])) hfit_nil))))))))))))))))))))))
  · simp only [go_sem, fit, ren, gmap, true_or, or_true]
  exact next (fun i hi => by
    have : i = 0 ∨ i = 1 ∨ i = 2 ∨ i = 3 := by omega
    rcases this with rfl | rfl | rfl | rfl <;> assumption) k0 e0 k1 e1 k2 e2 k3 e3 c0 d0 c1 d1 c2 d2 c3 d3 mk0 me0 mk1 me1 mk2 me2 mk3 me3
end
end Go.Vs.Tryd
