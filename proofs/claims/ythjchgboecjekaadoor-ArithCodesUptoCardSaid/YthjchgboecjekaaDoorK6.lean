/- Text 6 of 6 of this claim: a machine of plain values beside the model, what the functions of the program and of the reference answer over it, and last the row and its card. -/
import Derived.Test.YthjchgboecjekaaDoorK5
import Derived.Test.YthjchgboecjekaaDoorK4
import Derived.WalkKit
import Derived.ProofKit
import Derived.Carry
import Derived.Lay
import Derived.SevenTiedAt
import Derived.Deep.Slices
import Derived.OpenShut
import Derived.Deep.DeepHandedRow
import Derived.Test.YthjchgboecjekaaDoorCards
import Derived.Test.YthjchgboecjekaaDoorTie
set_option linter.unusedVariables false
set_option linter.unusedSimpArgs false
namespace Go.Vs.Tryd
open Go.Proofs
variable {G : Nat → List V}
set_option linter.unusedSimpArgs false
attribute [local go_sem] lenO_nils lenO_sl sliceAtV Int.sub_zero List.length_append List.all_append ge_iff_le gt_iff_lt Int.natCast_nonneg Int.toNat_natCast Nat.mul_one b_and_ll b_shr_ll b_mul_ll b_add_ll b_or_ll b_shl_ll pick_ll pick_lc pick_bb driveS stopV Option.isSome_some Option.isSome_none Kind.m Kind.w Kind.g look_ro look_rw look_grow drive stepV exo expo evs fillV isNil nilKind eqV eqL optA optM sliceAtV ev kn ldc stc splice appV srcV lenV setd wantV exitV rvs rv one List.length_cons List.length_nil List.cons_append List.nil_append List.append_nil List.replicate List.getD_cons_zero List.getD_cons_succ List.set_cons_zero List.set_cons_succ List.getElem?_cons_zero List.getElem?_cons_succ List.getElem?_nil List.take_succ_cons List.take_zero List.take_nil List.drop_succ_cons List.drop_zero List.drop_nil List.all_cons List.all_nil List.any_cons List.any_nil Bool.and_true Bool.true_and Bool.and_self Option.map_some Option.map_none Option.bind_some Option.some.injEq Nat.add_zero Nat.zero_add Int.toNat_zero Int.toNat_one Int.zero_add Int.add_zero if_true if_false ite_true ite_false and_true true_and and_self ne_eq not_false_eq_true not_true_eq_false decide_true decide_false Bool.false_eq_true Bool.not_true Bool.not_false beq_self_eq_true BEq.rfl Bool.not_eq_true Nat.le_refl Int.le_refl Nat.zero_le List.foldl List.map_cons List.map_nil Prod.mk.injEq Int.cast_ofNat_Int Int.zero_le_ofNat b_add_cc b_add_cl b_add_lc b_mul_cc b_mul_cl b_mul_lc b_sub_cc b_sub_cl b_sub_lc b_and_cc b_and_cl b_and_lc b_or_cc b_or_cl b_or_lc b_xor_cc b_xor_cl b_xor_lc b_andNot_cc b_andNot_cl b_andNot_lc b_shr_cc b_shr_cl b_shr_lc b_shl_cc b_shl_cl b_shl_lc b_lss b_leq b_gtr b_geq b_add_i b_sub_i b_mul_i beq_cc beq_cl beq_lc beq_ll b_quo_i b_rem_i neg_u64 wrap_i64 driveD stepD idsAt idOf maskH_nil restore_nil restore_mask List.filterMap_nil List.filterMap_cons VOp.looks VOp.makes exA cells_agg cells_int cells_bool cells_str cells_nilp cells_ptr cells_glob cells_nils cells_sl cells_nilf cells_fn cells_nili cells_ifc known_agg known_tup known_int known_bool known_str known_nilp known_ptr known_glob known_nils known_sl known_nilf known_fn known_nili known_ifc known_unk one_agg one_tup one_int one_bool one_str one_nilp one_ptr one_glob one_nils one_sl one_nilf one_fn one_nili one_ifc asK_int asN_int asB_bool asS_str asG_agg asT_tup true_or or_true false_or or_false
attribute [local go_sem_proc] Nat.reduceAdd Nat.reduceSub Nat.reduceLeDiff Nat.reduceMul Nat.reduceLT Nat.reduceEqDiff Int.reduceLT Int.reduceLE Int.reduceAdd Int.reduceSub Int.reduceMul Int.reduceToNat reduceIte reduceCtorEq Nat.reduceBEq
section
attribute [local go_sem ↓] lc_len lc_take lc_drop lc_known lc_one lc_rens lc_cells lw_known lw_agg lw_asG scs_known scs_one scs_len
attribute [local go_sem ↓] brow_len brow_known brow_one brow_rens bw_known bw_agg bw_cells bw_asG
attribute [local go_sem ↓] ecs_len ecs_take ecs_drop ecs_known ecs_one ecs_rens ecs_fit ecs_cells ew_known ew_agg ew_asG ecs_kind ecs_k ecs_l ers_known ers_one ers_len ers_rens ers_fit ecs_take_add ecs_drop_add lc_take_add lc_drop_add lenO_de de_known de_one
attribute [local go_sem] lt_nat lt_natl lt_lnat lt_ll bool_tf bool_ft
set_option maxRecDepth 100000
set_option maxHeartbeats 4000000
theorem eb_fit (f : Nat → Nat) (n : Nat) (g : Nat → Nat) : bfit g (eb f n) (eb f n) := by
  unfold eb
  split
  · trivial
  · exact bfit_g (ers_rens ..)
section
variable (L R : Option Blk) (bx : List V) (A : Nat → Nat)
def tmA (i : Nat) (oV : V) : List V := [.unk, .ptr 2 0, .unk, .unk, oV, .sl 3 0 8 (.exact 8), .int .i64 i] ++ List.replicate 109 .unk
def tmB (i : Nat) : List V := [.unk, .ptr 2 0, .unk, .unk, .sl 4 0 (32 * (8 + i)) (.grow 1), .unk, .unk, .unk, .sl 3 0 3 (.exact 3), .int .i64 i] ++ List.replicate 106 .unk
def tmC (i : Nat) : List V := [.unk, .ptr 2 0, .unk, .unk, .sl 3 0 (32 * (11 + 2 * i)) (.grow 1), .unk, .unk, .unk, .unk, .unk, .unk, .int .i64 i] ++ List.replicate 104 .unk
theorem r6_a (hLf : ∀ f, bfit f L L) (hRf : ∀ f, bfit f R R) (hbx : ∀ f : Nat → Nat, f 0 = 0 → f 1 = 1 → rens f bx = bx) (w : Nat → Nat) (hw : ∀ j, j < 8 → w j = A j % ell) {Q : V → Heap → Prop} {K : List TI}
    (hQ : Run Tryd.prog G 6 2 Q (K, ⟨tmA 8 (.sl 4 0 (32 * 8) (.grow 1)), [L, R, some ⟨.rw, bx⟩, some ⟨.rw, ers 8 w⟩, some ⟨.grow, brow (32 * 8) (encF A)⟩]⟩)) : ∀ m i oV oB, i + m = 8 → (i = 0 ∧ oV = .nils ∧ oB = none) ∨ (0 < i ∧ oV = .sl 4 0 (32 * i) (.grow 1) ∧ oB = some ⟨.grow, brow (32 * i) (encF A)⟩) →
    Run Tryd.prog G 6 2 Q (.l v6_11 :: .b 0 :: K, ⟨tmA i oV, [L, R, some ⟨.rw, bx⟩, some ⟨.rw, ers 8 w⟩, oB]⟩)
  | 0, i, oV, oB, e, hc => by
    obtain rfl : i = 8 := by omega
    obtain ⟨_, rfl, rfl⟩ : 0 < 8 ∧ _ ∧ _ := by
      rcases hc with ⟨h, _⟩ | h
      · omega
      · exact h
    unfold tmA at hQ ⊢
    refine run_loop_eq v6_11.eq_1 ?_
    refine run_driveS 80 ?_
    simp only [go_sem, v6_6]
    refine run_exit rfl ?_
    refine run_tmps ?_ hQ
    simp only [go_sem, forg, true_or, or_true]
  | m + 1, i, oV, oB, e, hc => by
    have ih := r6_a hLf hRf hbx w hw hQ m (i + 1) _ _ (by omega) (.inr ⟨by omega, rfl, rfl⟩)
    have hi : i < 8 := by omega
    have h0 : ((i : Int) < 8) = True := eq_true (by omega)
    have g1 := ers_get 8 w hi
    have g2 := encF_snoc A i
    rw [← hw i hi] at g2
    have a1 : (32 * i + 32 ≤ 140737488355328) = True := eq_true (by omega)
    have a2 : (32 * i + 32 ≤ 9223372036854775807) = True := eq_true (by omega)
    have a2' : (32 * i ≤ 9223372036854775775) = True := eq_true (by omega)
    have nx : ∀ (tm : List V) (X Y : Option Blk), (∀ f : Nat → Nat, f 2 = 2 → f 3 = 3 → f 4 = 6 → fit f (tmA (i + 1) (.sl 4 0 (32 * (i + 1)) (.grow 1))) tm) → Run Tryd.prog G 6 2 Q (.l v6_11 :: .b 0 :: K, ⟨tm, [L, R, some ⟨.rw, bx⟩, some ⟨.rw, ers 8 w⟩, X, Y, some ⟨.grow, brow (32 * (i + 1)) (encF A)⟩]⟩) := fun tm X Y ht => by
      refine run_rename [0, 1, 2, 3, 6] rfl (by simp) ?_ (uniq_nodup (by decide)) (ht _ rfl rfl rfl) ih
      exact hfit_cons rfl (hLf _) (hfit_cons rfl (hRf _) (hfit_cons rfl (bfit_g (hbx _ rfl rfl)) (hfit_cons rfl (bfit_g (ers_rens ..)) (hfit_cons rfl (bfit_g (brow_rens ..)) hfit_nil))))
    have hw : IntKind.i64.wrap ((i : Int) + 1) = ((i + 1 : Nat) : Int) := by rw [wrap_i64 (by omega) (by omega)]; omega
    unfold tmA
    refine run_loop_eq v6_11.eq_1 ?_
    refine run_driveS 80 ?_
    simp only [go_sem, v6_6, v6_9, v6_7, h0, g1]
    refine run_call' rfl ?_
    simp only [go_sem, calV]
    refine encode_e _ ?_
    rcases hc with ⟨rfl, rfl, rfl⟩ | ⟨h3, rfl, rfl⟩
    · have hw0 : IntKind.i64.wrap 1 = 1 := by decide
      refine run_driveS 80 ?_
      simp only [go_sem, v6_8, v6_10, brow_take, brow_drop32, zero32, Nat.mul_one, hw0]
      have e32 : brow 32 (enc (w 0)) = brow (32 * (0 + 1)) (encF A) := by
        rw [show brow (32 * 0) (encF A) = [] from rfl, List.nil_append] at g2
        exact g2
      rw [e32]
      exact nx _ _ _ (fun f h2 h3 h4 => by simp only [go_sem, tmA, fit, ren, h2, h3, h4, true_or, or_true])
    · refine run_driveS 80 ?_
      simp only [go_sem, v6_8, v6_10, brow_take, brow_drop32, zero32, Nat.mul_one, a1, a2, a2', hw]
      rw [g2]
      exact nx _ _ _ (fun f h2 h3 h4 => by simp only [go_sem, tmA, fit, ren, h2, h3, h4, true_or, or_true, Nat.mul_add, Nat.mul_one])
theorem r6_b (hLf : ∀ f, bfit f L L) (hRf : ∀ f, bfit f R R) (hbx : ∀ f : Nat → Nat, f 0 = 0 → f 1 = 1 → rens f bx = bx) (w : Nat → Nat) (hw : ∀ j, j < 3 → w j = A (8 + j) % ell) {Q : V → Heap → Prop} {K : List TI}
    (hQ : Run Tryd.prog G 6 2 Q (K, ⟨tmB 3, [L, R, some ⟨.rw, bx⟩, some ⟨.rw, scs 3 w⟩, some ⟨.grow, brow (32 * (8 + 3)) (encF A)⟩]⟩)) : ∀ m i, i + m = 3 →
    Run Tryd.prog G 6 2 Q (.l v6_20 :: .b 2 :: K, ⟨tmB i, [L, R, some ⟨.rw, bx⟩, some ⟨.rw, scs 3 w⟩, some ⟨.grow, brow (32 * (8 + i)) (encF A)⟩]⟩)
  | 0, i, e => by
    obtain rfl : i = 3 := by omega
    unfold tmB at hQ ⊢
    refine run_loop_eq v6_20.eq_1 ?_
    refine run_driveS 80 ?_
    simp only [go_sem, v6_15]
    refine run_exit rfl ?_
    refine run_tmps ?_ hQ
    simp only [go_sem, forg, true_or, or_true]
  | m + 1, i, e => by
    have ih := r6_b hLf hRf hbx w hw hQ m (i + 1) (by omega)
    have hi : i < 3 := by omega
    have h0 : ((i : Int) < 3) = True := eq_true (by omega)
    have g1 := scs_get' 3 w hi
    have g2 := encF_snoc A (8 + i)
    rw [← hw i hi] at g2
    have a1 : (32 * (8 + i) + 32 ≤ 140737488355328) = True := eq_true (by omega)
    have a2 : (32 * (8 + i) + 32 ≤ 9223372036854775807) = True := eq_true (by omega)
    have a2' : (32 * (8 + i) ≤ 9223372036854775775) = True := eq_true (by omega)
    have hw : IntKind.i64.wrap ((i : Int) + 1) = ((i + 1 : Nat) : Int) := by rw [wrap_i64 (by omega) (by omega)]; omega
    unfold tmB
    refine run_loop_eq v6_20.eq_1 ?_
    refine run_driveS 80 ?_
    simp only [go_sem, v6_15, v6_18, v6_16, h0, g1]
    refine run_call' rfl ?_
    simp only [go_sem, calV]
    refine ref_encode _ ?_
    refine run_driveS 80 ?_
    simp only [go_sem, v6_17, v6_19, brow_take, brow_drop32, zero32, Nat.mul_one, a1, a2, a2', hw]
    rw [g2]
    refine run_rename [0, 1, 2, 3, 6] rfl (by simp) ?_ (uniq_nodup (by decide)) ?_ ih
    · exact hfit_cons rfl (hLf _) (hfit_cons rfl (hRf _) (hfit_cons rfl (bfit_g (hbx _ rfl rfl)) (hfit_cons rfl (bfit_g (scs_rens ..)) (hfit_cons rfl (bfit_g (brow_rens ..)) hfit_nil))))
    · have e9 : 32 * (8 + (i + 1)) = 32 * (8 + i) + 32 := by omega
      simp only [go_sem, tmB, fit, ren, gmap, true_or, or_true, e9]
theorem r6_c (k : Nat) (hk : k ≤ 10) (lv rv : Nat → Nat) (hLf : ∀ f, bfit f L L) (hRf : ∀ f, bfit f R R) (hL : 0 < k → L = some ⟨.ro, ers k lv⟩) (hR : 0 < k → R = some ⟨.ro, ers k rv⟩) (hbx : ∀ f : Nat → Nat, f 0 = 0 → f 1 = 1 → rens f bx = bx) (hb1 : (bx.drop 220).take 1 = [de 0 k]) (hb2 : (bx.drop 221).take 1 = [de 1 k])
    (hl : ∀ j, j < k → lv j = A (11 + 2 * j) % ell) (hr : ∀ j, j < k → rv j = A (12 + 2 * j) % ell) {Q : V → Heap → Prop} {K : List TI}
    (hQ : Run Tryd.prog G 6 2 Q (K, ⟨tmC k, [L, R, some ⟨.rw, bx⟩, some ⟨.grow, brow (32 * (11 + 2 * k)) (encF A)⟩]⟩)) : ∀ m i, i + m = k →
    Run Tryd.prog G 6 2 Q (.l v6_30 :: .b 4 :: K, ⟨tmC i, [L, R, some ⟨.rw, bx⟩, some ⟨.grow, brow (32 * (11 + 2 * i)) (encF A)⟩]⟩)
  | 0, i, e => by
    obtain rfl : i = k := by omega
    have h0 : ((i : Int) < (i : Int)) = False := eq_false (by omega)
    unfold tmC at hQ ⊢
    refine run_loop_eq v6_30.eq_1 ?_
    refine run_driveS 80 ?_
    simp only [go_sem, v6_23, hb1, h0]
    refine run_exit rfl ?_
    refine run_tmps ?_ hQ
    simp only [go_sem, forg, true_or, or_true]
  | m + 1, i, e => by
    have ih := r6_c k hk lv rv hLf hRf hL hR hbx hb1 hb2 hl hr hQ m (i + 1) (by omega)
    have hi : i < k := by omega
    have h0 : ((i : Int) < (k : Int)) = True := eq_true (by omega)
    have g1 := ers_get k lv hi
    have g3 := ers_get k rv hi
    have g2 := encF_snoc A (11 + 2 * i)
    rw [← hl i hi] at g2
    have g4 := encF_snoc A (12 + 2 * i)
    rw [← hr i hi] at g4
    have e9 : 32 * (11 + 2 * i) + 32 = 32 * (12 + 2 * i) := by omega
    have e8 : 32 * (11 + 2 * i + 1) = 32 * (12 + 2 * i) := by omega
    have e7 : 32 * (12 + 2 * i) + 32 = 32 * (11 + 2 * (i + 1)) := by omega
    have e6 : 32 * (12 + 2 * i + 1) = 32 * (11 + 2 * (i + 1)) := by omega
    rw [e8] at g2
    rw [e6] at g4
    have a1 : (32 * (12 + 2 * i) ≤ 140737488355328) = True := eq_true (by omega)
    have a2 : (32 * (12 + 2 * i) ≤ 9223372036854775807) = True := eq_true (by omega)
    have a3 : (32 * (11 + 2 * (i + 1)) ≤ 140737488355328) = True := eq_true (by omega)
    have a4 : (32 * (11 + 2 * (i + 1)) ≤ 9223372036854775807) = True := eq_true (by omega)
    have hw : IntKind.i64.wrap ((i : Int) + 1) = ((i + 1 : Nat) : Int) := by rw [wrap_i64 (by omega) (by omega)]; omega
    obtain rfl := hL (by omega)
    obtain rfl := hR (by omega)
    have dl : de 0 k = .sl 0 0 k (.grow 26) := de_pos (by omega)
    have dr : de 1 k = .sl 1 0 k (.grow 26) := de_pos (by omega)
    unfold tmC
    refine run_loop_eq v6_30.eq_1 ?_
    refine run_driveS 80 ?_
    simp only [go_sem, v6_23, v6_28, v6_24, hb1, h0, g1, dl]
    refine run_call' rfl ?_
    simp only [go_sem, calV]
    refine encode_e _ ?_
    refine run_driveS 80 ?_
    simp only [go_sem, v6_25, hb2, h0, g3, dr, brow_take, brow_drop32, zero32]
    refine run_call' rfl ?_
    simp only [go_sem, calV]
    refine encode_e _ ?_
    refine run_driveS 80 ?_
    simp only [go_sem, brow_take, brow_drop32, zero32]
    refine run_driveS 80 ?_
    simp only [go_sem, v6_26, brow_take, brow_drop32, zero32, Nat.mul_one, e9, a1, a2, g2]
    refine run_driveS 80 ?_
    simp only [go_sem, v6_27, brow_take, brow_drop32, zero32, Nat.mul_one, e7, a3, a4, g4]
    refine run_driveS 80 ?_
    simp only [go_sem, v6_29, hw]
    refine run_rename [0, 1, 2, 7] rfl (by simp) ?_ (uniq_nodup (by decide)) ?_ ih
    · exact hfit_cons rfl (hLf _) (hfit_cons rfl (hRf _) (hfit_cons rfl (bfit_g (hbx _ rfl rfl)) (hfit_cons rfl (bfit_g (brow_rens ..)) hfit_nil)))
    · simp only [go_sem, tmC, fit, ren, gmap, true_or, or_true]
end
end
section
attribute [local go_sem ↓] lc_len lc_take lc_drop lc_known lc_one lc_rens lc_cells lw_known lw_agg lw_asG scs_known scs_one scs_len
attribute [local go_sem ↓] brow_len brow_known brow_one brow_rens bw_known bw_agg bw_cells bw_asG
attribute [local go_sem ↓] ecs_len ecs_take ecs_drop ecs_known ecs_one ecs_rens ecs_fit ecs_cells ew_known ew_agg ew_asG ecs_kind ecs_k ecs_l ers_known ers_one ers_len ers_rens ers_fit ecs_take_add ecs_drop_add lc_take_add lc_drop_add lenO_de de_known de_one
attribute [local go_sem] lt_nat lt_natl lt_lnat lt_ll bool_tf bool_ft
set_option maxRecDepth 100000
set_option maxHeartbeats 4000000
theorem gq_ren (g : Nat → List V) (t : Nat → Nat) (l r : V) (hg : ∀ j f, rens f (g j) = g j) (f : Nat → Nat) : rens f (gq g t l r) = gq g t (ren f l) (ren f r) := by
  simp only [gq, rens_append, hg, scs_rens, rens]
theorem r_encode_ok (w t A : Nat → Nat) (k : Nat) (hk : k ≤ 10) (lv rv : Nat → Nat) (hw : ∀ j, j < 8 → w j = A j % ell) (ht : ∀ j, j < 3 → t j = A (8 + j) % ell) (ht3 : t 3 = A (11 + 2 * k) % ell) (ht4 : t 4 = A (12 + 2 * k) % ell) (hl : ∀ j, j < k → lv j = A (11 + 2 * j) % ell) (hr : ∀ j, j < k → rv j = A (12 + 2 * j) % ell) {Q : V → Heap → Prop}
    (hQ : Q (.tup [.sl 2 0 (32 * (13 + 2 * k)) (.grow 1), .int .i64 0]) [none, none, some ⟨.grow, brow (32 * (13 + 2 * k)) (encF A)⟩]) : VCall Tryd.prog G 6 [.agg (gq (fun j => ecs (w j)) t (de 0 k) (de 1 k))] [eb lv k, eb rv k] Q := by
  have hg : ∀ j, (ecs (w j)).length = 26 := fun _ => rfl
  have q0 := gq_known t (g := fun j => ecs (w j)) (fun _ => rfl) (de_known 0 k) (de_known 1 k)
  have q1 := gq_len (g := fun j => ecs (w j)) t (de 0 k) (de 1 k) hg
  have f0 := gq0 (g := fun j => ecs (w j)) t (de 0 k) (de 1 k) hg
  have f1 := gq1 (g := fun j => ecs (w j)) t (de 0 k) (de 1 k) hg
  have f2 := gq2 (g := fun j => ecs (w j)) t (de 0 k) (de 1 k) hg
  have f3 := gq3 (g := fun j => ecs (w j)) t (de 0 k) (de 1 k) hg
  have f4 := gq4 (g := fun j => ecs (w j)) t (de 0 k) (de 1 k) hg
  have f5 := gq5 (g := fun j => ecs (w j)) t (de 0 k) (de 1 k) hg
  have f6 := gq6 (g := fun j => ecs (w j)) t (de 0 k) (de 1 k) hg
  have f7 := gq7 (g := fun j => ecs (w j)) t (de 0 k) (de 1 k) hg
  have f8 := gqk0 (g := fun j => ecs (w j)) t (de 0 k) (de 1 k) hg
  have f9 := gqk1 (g := fun j => ecs (w j)) t (de 0 k) (de 1 k) hg
  have fa := gqk2 (g := fun j => ecs (w j)) t (de 0 k) (de 1 k) hg
  have fb := gqk3 (g := fun j => ecs (w j)) t (de 0 k) (de 1 k) hg
  have fc := gqk4 (g := fun j => ecs (w j)) t (de 0 k) (de 1 k) hg
  have fl := gql (g := fun j => ecs (w j)) t (de 0 k) (de 1 k) hg
  have fr := gqr (g := fun j => ecs (w j)) t (de 0 k) (de 1 k) hg
  have hbx : ∀ f : Nat → Nat, f 0 = 0 → f 1 = 1 → rens f (gq (fun j => ecs (w j)) t (de 0 k) (de 1 k)) = gq (fun j => ecs (w j)) t (de 0 k) (de 1 k) := fun f h0 h1 => by
    rw [gq_ren _ _ _ _ (fun j f => ecs_rens _ f), de_ren, de_ren, h0, h1]
  have hL : 0 < k → eb lv k = some ⟨.ro, ers k lv⟩ := fun h => eb_pos h
  have hR : 0 < k → eb rv k = some ⟨.ro, ers k rv⟩ := fun h => eb_pos h
  generalize hgq : gq (fun j => ecs (w j)) t (de 0 k) (de 1 k) = bx at *
  have c1 : ((10 : Int) < (k : Int)) = False := eq_false (by omega)
  have e1 := encF_snoc A (11 + 2 * k)
  have e2 := encF_snoc A (12 + 2 * k)
  rw [← ht3] at e1
  rw [← ht4] at e2
  have e9 : 32 * (11 + 2 * k) + 32 = 32 * (12 + 2 * k) := by omega
  have e8 : 32 * (11 + 2 * k + 1) = 32 * (12 + 2 * k) := by omega
  have e7 : 32 * (12 + 2 * k) + 32 = 32 * (13 + 2 * k) := by omega
  have e6 : 32 * (12 + 2 * k + 1) = 32 * (13 + 2 * k) := by omega
  rw [e8] at e1
  rw [e6] at e2
  have a1 : (32 * (12 + 2 * k) ≤ 140737488355328) = True := eq_true (by omega)
  have a2 : (32 * (12 + 2 * k) ≤ 9223372036854775807) = True := eq_true (by omega)
  have a3 : (32 * (13 + 2 * k) ≤ 140737488355328) = True := eq_true (by omega)
  have a4 : (32 * (13 + 2 * k) ≤ 9223372036854775807) = True := eq_true (by omega)
  refine vcall_body Tryd.func6 nm6 code6 nt6 ?_
  refine run_driveS 80 ?_
  simp only [go_sem, v6, v6_0, q0]
  refine run_driveS 80 ?_
  simp only [go_sem, v6_1, fl, fr, q1, c1]
  refine run_cond_f (by rfl) ?_
  refine run_driveS 80 ?_
  simp only [go_sem, v6_3]
  refine run_driveS 80 ?_
  simp only [go_sem, v6_4, f0, f1, f2, f3, f4, f5, f6, f7, List.append_assoc]
  refine run_driveS 80 ?_
  simp only [go_sem, v6_5, v6_12]
  refine run_rename [0, 1, 2, 3, 4] (st' := ⟨tmA 0 .nils, [eb lv k, eb rv k, some ⟨.rw, bx⟩, some ⟨.rw, ers 8 w⟩, none]⟩) rfl (by simp) ?_ (uniq_nodup (by decide)) ?_ ?_
  · exact hfit_cons rfl (eb_fit ..) (hfit_cons rfl (eb_fit ..) (hfit_cons rfl (bfit_g (hbx _ rfl rfl)) (hfit_cons rfl (bfit_rw ((ers_rens ..).trans rfl)) (hfit_cons_none hfit_nil))))
  · simp only [go_sem, tmA, fit, ren, gmap, true_or, or_true]
  refine r6_a _ _ bx A (eb_fit lv k) (eb_fit rv k) hbx w hw ?_ 8 0 .nils none (by omega) (.inl ⟨rfl, rfl, rfl⟩)
  unfold tmA
  refine run_driveS 80 ?_
  simp only [go_sem, v6_13, f8, f9, fa]
  refine run_driveS 80 ?_
  simp only [go_sem, v6_14, v6_21]
  refine run_rename [0, 1, 2, 5, 4] (st' := ⟨tmB 0, [eb lv k, eb rv k, some ⟨.rw, bx⟩, some ⟨.rw, scs 3 t⟩, some ⟨.grow, brow (32 * (8 + 0)) (encF A)⟩]⟩) rfl (by simp) ?_ (uniq_nodup (by decide)) ?_ ?_
  · exact hfit_cons rfl (eb_fit ..) (hfit_cons rfl (eb_fit ..) (hfit_cons rfl (bfit_g (hbx _ rfl rfl)) (hfit_cons rfl (bfit_rw ((scs_rens ..).trans rfl)) (hfit_cons rfl (bfit_g (brow_rens ..)) hfit_nil))))
  · simp only [go_sem, tmB, fit, ren, gmap, true_or, or_true]
  refine r6_b _ _ bx A (eb_fit lv k) (eb_fit rv k) hbx t ht ?_ 3 0 (by omega)
  unfold tmB
  refine run_driveS 80 ?_
  simp only [go_sem, v6_22, v6_31]
  refine run_rename [0, 1, 2, 4] (st' := ⟨tmC 0, [eb lv k, eb rv k, some ⟨.rw, bx⟩, some ⟨.grow, brow (32 * (11 + 2 * 0)) (encF A)⟩]⟩) rfl (by simp) ?_ (uniq_nodup (by decide)) ?_ ?_
  · exact hfit_cons rfl (eb_fit ..) (hfit_cons rfl (eb_fit ..) (hfit_cons rfl (bfit_g (hbx _ rfl rfl)) (hfit_cons rfl (bfit_g (brow_rens ..)) hfit_nil)))
  · simp only [go_sem, tmC, fit, ren, gmap, true_or, or_true]
  refine r6_c _ _ bx A k hk lv rv (eb_fit lv k) (eb_fit rv k) hL hR hbx fl fr hl hr ?_ k 0 (by omega)
  unfold tmC
  refine run_driveS 80 ?_
  simp only [go_sem, v6_32, fb]
  refine run_call' rfl ?_
  simp only [go_sem, calV]
  refine ref_encode _ ?_
  refine run_driveS 80 ?_
  simp only [go_sem, brow_take, brow_drop32, zero32]
  refine run_driveS 80 ?_
  simp only [go_sem, v6_33, fc]
  refine run_call' rfl ?_
  simp only [go_sem, calV]
  refine ref_encode _ ?_
  refine run_driveS 80 ?_
  simp only [go_sem, brow_take, brow_drop32, zero32]
  refine run_driveS 80 ?_
  simp only [go_sem, v6_34, brow_take, brow_drop32, zero32, Nat.mul_one, e9, a1, a2, e1]
  refine run_driveS 80 ?_
  simp only [go_sem, v6_35, brow_take, brow_drop32, zero32, Nat.mul_one, e7, a3, a4, e2]
  refine run_ret_drop Tryd.func6 res6 [0, 1, 7] (.tup [.sl 2 0 (32 * (13 + 2 * k)) (.grow 1), .int .i64 0]) _ rfl (by simp) ?_ ?_ ?_ hQ
  · exact hfit_cons_none (hfit_cons_none (hfit_cons rfl (bfit_g (brow_rens ..)) hfit_nil))
  · exact uniq_nodup (by decide)
  · simp only [go_sem, rr6, rens, ren, gmap]
theorem r_encode_bad (g : Nat → List V) (t : Nat → Nat) (l r : V) {kl kr : Nat} (hg : ∀ j, (g j).length = 26) (hgk : ∀ j, (g j).all V.known = true) (hl : lenO l = some kl) (hr : lenO r = some kr) (hlk : l.known = true) (hrk : r.known = true) (hb : kl ≠ kr ∨ 10 < kl) {Q : V → Heap → Prop}
    (hQ : Q (.tup [.nils, .int .i64 2]) [none, none]) : VCall Tryd.prog G 6 [.agg (gq g t l r)] [none, none] Q := by
  have q0 := gq_known t hgk hlk hrk
  have q1 := gq_len t l r hg
  have fl := gql t l r hg
  have fr := gqr t l r hg
  refine vcall_body Tryd.func6 nm6 code6 nt6 ?_
  by_cases he : kl = kr
  · subst he
    have c1 : ((10 : Int) < (kl : Int)) = True := eq_true (by omega)
    refine run_driveS 80 ?_
    simp only [go_sem, v6, v6_0, q0]
    refine run_driveS 80 ?_
    simp only [go_sem, v6_1, fl, fr, q1, hl, hr, hlk, hrk, c1]
    refine run_cond_t (by rfl) ?_
    refine run_driveS 80 ?_
    simp only [go_sem, v6_2]
    refine run_ret_drop Tryd.func6 res6 [0, 1] (.tup [.nils, .int .i64 2]) _ rfl (by simp) ?_ ?_ ?_ hQ
    · exact hfit_cons_none (hfit_cons_none hfit_nil)
    · exact uniq_nodup (by decide)
    · simp only [go_sem, rr6, rens, ren, gmap]
  · have c1 : ((kl : Int) == (kr : Int)) = false := by
      rw [beq_eq_false_iff_ne]; omega
    refine run_driveS 80 ?_
    simp only [go_sem, v6, v6_0, q0]
    refine run_driveS 80 ?_
    simp only [go_sem, v6_1, fl, fr, q1, hl, hr, hlk, hrk, c1]
    refine run_cond_t (by rfl) ?_
    refine run_driveS 80 ?_
    simp only [go_sem, v6_2]
    refine run_ret_drop Tryd.func6 res6 [0, 1] (.tup [.nils, .int .i64 2]) _ rfl (by simp) ?_ ?_ ?_ hQ
    · exact hfit_cons_none (hfit_cons_none hfit_nil)
    · exact uniq_nodup (by decide)
    · simp only [go_sem, rr6, rens, ren, gmap]
end
end Go.Vs.Tryd
namespace Go.Vs.Tryd
open Go.Proofs
variable {G : Nat → List V}
set_option linter.unusedSimpArgs false
attribute [local go_sem] lenO_nils lenO_sl sliceAtV Int.sub_zero List.length_append List.all_append ge_iff_le gt_iff_lt Int.natCast_nonneg Int.toNat_natCast Nat.mul_one b_and_ll b_shr_ll b_mul_ll b_add_ll b_or_ll b_shl_ll pick_ll pick_lc pick_bb driveS stopV Option.isSome_some Option.isSome_none Kind.m Kind.w Kind.g look_ro look_rw look_grow drive stepV exo expo evs fillV isNil nilKind eqV eqL optA optM sliceAtV ev kn ldc stc splice appV srcV lenV setd wantV exitV rvs rv one List.length_cons List.length_nil List.cons_append List.nil_append List.append_nil List.replicate List.getD_cons_zero List.getD_cons_succ List.set_cons_zero List.set_cons_succ List.getElem?_cons_zero List.getElem?_cons_succ List.getElem?_nil List.take_succ_cons List.take_zero List.take_nil List.drop_succ_cons List.drop_zero List.drop_nil List.all_cons List.all_nil List.any_cons List.any_nil Bool.and_true Bool.true_and Bool.and_self Option.map_some Option.map_none Option.bind_some Option.some.injEq Nat.add_zero Nat.zero_add Int.toNat_zero Int.toNat_one Int.zero_add Int.add_zero if_true if_false ite_true ite_false and_true true_and and_self ne_eq not_false_eq_true not_true_eq_false decide_true decide_false Bool.false_eq_true Bool.not_true Bool.not_false beq_self_eq_true BEq.rfl Bool.not_eq_true Nat.le_refl Int.le_refl Nat.zero_le List.foldl List.map_cons List.map_nil Prod.mk.injEq Int.cast_ofNat_Int Int.zero_le_ofNat b_add_cc b_add_cl b_add_lc b_mul_cc b_mul_cl b_mul_lc b_sub_cc b_sub_cl b_sub_lc b_and_cc b_and_cl b_and_lc b_or_cc b_or_cl b_or_lc b_xor_cc b_xor_cl b_xor_lc b_andNot_cc b_andNot_cl b_andNot_lc b_shr_cc b_shr_cl b_shr_lc b_shl_cc b_shl_cl b_shl_lc b_lss b_leq b_gtr b_geq b_add_i b_sub_i b_mul_i beq_cc beq_cl beq_lc beq_ll b_quo_i b_rem_i neg_u64 wrap_i64 driveD stepD idsAt idOf maskH_nil restore_nil restore_mask List.filterMap_nil List.filterMap_cons VOp.looks VOp.makes exA cells_agg cells_int cells_bool cells_str cells_nilp cells_ptr cells_glob cells_nils cells_sl cells_nilf cells_fn cells_nili cells_ifc known_agg known_tup known_int known_bool known_str known_nilp known_ptr known_glob known_nils known_sl known_nilf known_fn known_nili known_ifc known_unk one_agg one_tup one_int one_bool one_str one_nilp one_ptr one_glob one_nils one_sl one_nilf one_fn one_nili one_ifc asK_int asN_int asB_bool asS_str asG_agg asT_tup true_or or_true false_or or_false
attribute [local go_sem ↓] lc_len lc_take lc_drop lc_known lc_one lc_rens lc_cells lw_known lw_agg lw_asG scs_known scs_one scs_len
attribute [local go_sem ↓] brow_len brow_known brow_one brow_rens bw_known bw_agg bw_cells bw_asG
attribute [local go_sem ↓] ecs_len ecs_take ecs_drop ecs_known ecs_one ecs_rens ecs_fit ecs_cells ew_known ew_agg ew_asG ecs_kind ecs_k ecs_l ers_known ers_one ers_len ers_rens ers_fit ecs_take_add ecs_drop_add lc_take_add lc_drop_add lenO_de de_known de_one
attribute [local go_sem] lt_nat lt_natl lt_lnat lt_ll bool_tf bool_ft
set_option maxRecDepth 100000
set_option maxHeartbeats 4000000
def z230 : List V := gq (fun _ => e0) (fun _ => 0) .nils .nils
theorem z230_rens (f : Nat → Nat) : rens f z230 = z230 := by rw [z230, gq_ren _ _ _ _ (fun _ f => e0_rens f)]; rfl
def cutc (F : Nat → Nat) (m T i : Nat) : List V := [.int .i64 2, .sl 0 (32 * i) (32 * (T - i)) (.exact (m - 32 * i)), .int .i64 (er F i)]
def D (F : Nat → Nat) (j : Nat) : Nat := dval fun t => F (32 * j + t)
theorem cut_go {F : Nat → Nat} {m T i : Nat} (hi : i + 1 < T) (hm : 32 * T ≤ m) : ([.int .i64 2, .sl 0 (32 * i + adv (m - 32 * i)) (32 * (T - i) - 32) (.exact (m - 32 * i - 32)), .int .i64 (if er F i = 0 then derr (fun t => F (32 * i + t)) else er F i)] : List V) = cutc F m T (i + 1) := by
  unfold cutc adv
  rw [if_neg (by omega), show 32 * i + 32 = 32 * (i + 1) by omega, show 32 * (T - i) - 32 = 32 * (T - (i + 1)) by omega, show m - 32 * i - 32 = m - 32 * (i + 1) by omega]
  rfl
section
variable {N m T : Nat} {F : Nat → Nat} (hF : ∀ j, F j < 256) (hN : 32 * T ≤ N) (hm : 32 * T ≤ m) {z : Option Blk} {rest : Heap}
include hF hN hm
theorem el_any {i : Nat} (hi : i < T) {R : V → Heap → Prop} (hR : R (ew (D F i)) (some ⟨.ro, brow N F⟩ :: z :: some ⟨.rw, [.int .i64 2, .sl 0 (32 * i + adv (m - 32 * i)) (32 * (T - i) - 32) (.exact (m - 32 * i - 32)), .int .i64 (if er F i = 0 then derr (fun t => F (32 * i + t)) else er F i)]⟩ :: rest)) :
    VCall Tryd.prog G 21 [.ptr 2 0] (some ⟨.ro, brow N F⟩ :: z :: some ⟨.rw, cutc F m T i⟩ :: rest) R := by
  refine vcall_at (Q := fun v k => v = ew (D F i) ∧ k = _) (r_elem N (32 * i) (32 * (T - i)) (m - 32 * i) F hF (by omega) (by omega) (by omega) (er F i) _ ⟨rfl, rfl⟩) [2, 0] ?_ ?_ ?_ ?_ ?_
  · intro j hj
    simp only [List.mem_cons, List.not_mem_nil, or_false] at hj
    rcases hj with rfl | rfl <;> simp
  · exact hfit_cons rfl (bfit_rw (by simp only [rens, ren, gmap, cutc])) (hfit_cons rfl (bfit_g (brow_rens ..)) hfit_nil)
  · exact uniq_nodup (by decide)
  · simp only [rens, ren, gmap]
  · rintro _ _ ⟨rfl, rfl⟩
    simp only [puts, wrB, Bool.false_eq_true, if_false, if_true, List.set_cons_zero, List.set_cons_succ, List.map_nil, List.append_nil, Option.map_some, renB, rens, ren, gmap, ew_plain]
    exact hR
theorem nu_any {i : Nat} (hi : i < T) {R : V → Heap → Prop} (hR : R (lw (D F i)) (some ⟨.ro, brow N F⟩ :: z :: some ⟨.rw, [.int .i64 2, .sl 0 (32 * i + adv (m - 32 * i)) (32 * (T - i) - 32) (.exact (m - 32 * i - 32)), .int .i64 (if er F i = 0 then derr (fun t => F (32 * i + t)) else er F i)]⟩ :: rest)) :
    VCall Tryd.prog G 22 [.ptr 2 0] (some ⟨.ro, brow N F⟩ :: z :: some ⟨.rw, cutc F m T i⟩ :: rest) R := by
  refine vcall_at (Q := fun v k => v = lw (D F i) ∧ k = _) (r_num N (32 * i) (32 * (T - i)) (m - 32 * i) F hF (by omega) (by omega) (by omega) (er F i) _ ⟨rfl, rfl⟩) [2, 0] ?_ ?_ ?_ ?_ ?_
  · intro j hj
    simp only [List.mem_cons, List.not_mem_nil, or_false] at hj
    rcases hj with rfl | rfl <;> simp
  · exact hfit_cons rfl (bfit_rw (by simp only [rens, ren, gmap, cutc])) (hfit_cons rfl (bfit_g (brow_rens ..)) hfit_nil)
  · exact uniq_nodup (by decide)
  · simp only [rens, ren, gmap]
  · rintro _ _ ⟨rfl, rfl⟩
    simp only [puts, wrB, Bool.false_eq_true, if_false, if_true, List.set_cons_zero, List.set_cons_succ, List.map_nil, List.append_nil, Option.map_some, renB, rens, ren, gmap, lw_plain]
    exact hR
theorem el_s {i : Nat} (hi : i + 1 < T) {R : V → Heap → Prop} (hR : R (ew (D F i)) (some ⟨.ro, brow N F⟩ :: z :: some ⟨.rw, cutc F m T (i + 1)⟩ :: rest)) :
    VCall Tryd.prog G 21 [.ptr 2 0] (some ⟨.ro, brow N F⟩ :: z :: some ⟨.rw, cutc F m T i⟩ :: rest) R :=
  el_any hF hN hm (by omega) (by rw [cut_go hi hm]; exact hR)
theorem nu_s {i : Nat} (hi : i + 1 < T) {R : V → Heap → Prop} (hR : R (lw (D F i)) (some ⟨.ro, brow N F⟩ :: z :: some ⟨.rw, cutc F m T (i + 1)⟩ :: rest)) :
    VCall Tryd.prog G 22 [.ptr 2 0] (some ⟨.ro, brow N F⟩ :: z :: some ⟨.rw, cutc F m T i⟩ :: rest) R :=
  nu_any hF hN hm (by omega) (by rw [cut_go hi hm]; exact hR)
end
attribute [irreducible] D
def pq (F : Nat → Nat) (j : Nat) : List V := gq (fun a => if a < j then ecs (D F a) else e0) (fun _ => 0) .nils .nils
def pt (F : Nat → Nat) (j a : Nat) : Nat := if a < j then D F (8 + a) else 0
def pn (F : Nat → Nat) (j : Nat) (l r : V) : List V := gq (fun a => ecs (D F a)) (pt F j) l r
theorem hpq (F : Nat → Nat) (j : Nat) : ∀ a, ((fun a => if a < j then ecs (D F a) else e0) a).length = 26 := fun a => by
  show (if a < j then ecs (D F a) else e0).length = 26
  split <;> rfl
theorem hec (F : Nat → Nat) : ∀ a, ((fun a => ecs (D F a)) a).length = 26 := fun a => ecs_len _
theorem pq_len (F : Nat → Nat) (j : Nat) : (pq F j).length = 230 := gq_len (g := fun a => if a < j then ecs (D F a) else e0) _ _ _ (hpq F j)
theorem pn_len (F : Nat → Nat) (j : Nat) (l r : V) : (pn F j l r).length = 230 := gq_len (g := fun a => ecs (D F a)) _ _ _ (hec F)
section
variable {g : Nat → List V} (t : Nat → Nat) (l r : V) (hg : ∀ j, (g j).length = 26)
theorem gq_congr {g g' : Nat → List V} {t t' : Nat → Nat} (l r : V) (h : ∀ a, a < 8 → g a = g' a) (ht : ∀ a, a < 5 → t a = t' a) : gq g t l r = gq g' t' l r := by
  unfold gq
  rw [h 0 (by decide), h 1 (by decide), h 2 (by decide), h 3 (by decide), h 4 (by decide), h 5 (by decide), h 6 (by decide), h 7 (by decide), scs_congr (n := 3) (f := t) (f' := t') (fun j hj => ht j (by omega)), scs_congr (n := 2) (f := fun j => t (3 + j)) (f' := fun j => t' (3 + j)) (fun j hj => ht (3 + j) (by omega))]
theorem upd_eq {g : Nat → List V} {i : Nat} {c : List V} : upd g i c i = c := upd_same g i c
include hg
theorem gtk (j : Nat) (n : Nat) (b : List V) : (g j ++ b).take (n + 26) = g j ++ b.take n := by
  have := hg j
  rw [List.take_append, List.take_of_length_le (by omega), this, Nat.add_sub_cancel]
theorem gset0 (c : List V) : c ++ (gq g t l r).drop 26 = gq (upd g 0 c) t l r := by
  show c ++ List.drop (0 + 26) _ = _
  unfold gq
  rw [gdr hg, List.drop_zero]
  rw [upd_ne (e := g) (i := 0) (j := 1) (by decide), upd_ne (e := g) (i := 0) (j := 2) (by decide), upd_ne (e := g) (i := 0) (j := 3) (by decide), upd_ne (e := g) (i := 0) (j := 4) (by decide), upd_ne (e := g) (i := 0) (j := 5) (by decide), upd_ne (e := g) (i := 0) (j := 6) (by decide), upd_ne (e := g) (i := 0) (j := 7) (by decide), upd_eq]
theorem gset1 (c : List V) : (gq g t l r).take 26 ++ c ++ (gq g t l r).drop 52 = gq (upd g 1 c) t l r := by
  show List.take (0 + 26) _ ++ c ++ List.drop (0 + 26 + 26) _ = _
  unfold gq
  rw [gtk hg, gdr hg, gdr hg, List.drop_zero, List.take_zero]
  rw [upd_ne (e := g) (i := 1) (j := 0) (by decide), upd_ne (e := g) (i := 1) (j := 2) (by decide), upd_ne (e := g) (i := 1) (j := 3) (by decide), upd_ne (e := g) (i := 1) (j := 4) (by decide), upd_ne (e := g) (i := 1) (j := 5) (by decide), upd_ne (e := g) (i := 1) (j := 6) (by decide), upd_ne (e := g) (i := 1) (j := 7) (by decide), upd_eq]
  simp only [List.append_assoc, List.append_nil, List.nil_append]
theorem gset2 (c : List V) : (gq g t l r).take 52 ++ c ++ (gq g t l r).drop 78 = gq (upd g 2 c) t l r := by
  show List.take (0 + 26 + 26) _ ++ c ++ List.drop (0 + 26 + 26 + 26) _ = _
  unfold gq
  rw [gtk hg, gtk hg, gdr hg, gdr hg, gdr hg, List.drop_zero, List.take_zero]
  rw [upd_ne (e := g) (i := 2) (j := 0) (by decide), upd_ne (e := g) (i := 2) (j := 1) (by decide), upd_ne (e := g) (i := 2) (j := 3) (by decide), upd_ne (e := g) (i := 2) (j := 4) (by decide), upd_ne (e := g) (i := 2) (j := 5) (by decide), upd_ne (e := g) (i := 2) (j := 6) (by decide), upd_ne (e := g) (i := 2) (j := 7) (by decide), upd_eq]
  simp only [List.append_assoc, List.append_nil, List.nil_append]
theorem gset3 (c : List V) : (gq g t l r).take 78 ++ c ++ (gq g t l r).drop 104 = gq (upd g 3 c) t l r := by
  show List.take (0 + 26 + 26 + 26) _ ++ c ++ List.drop (0 + 26 + 26 + 26 + 26) _ = _
  unfold gq
  rw [gtk hg, gtk hg, gtk hg, gdr hg, gdr hg, gdr hg, gdr hg, List.drop_zero, List.take_zero]
  rw [upd_ne (e := g) (i := 3) (j := 0) (by decide), upd_ne (e := g) (i := 3) (j := 1) (by decide), upd_ne (e := g) (i := 3) (j := 2) (by decide), upd_ne (e := g) (i := 3) (j := 4) (by decide), upd_ne (e := g) (i := 3) (j := 5) (by decide), upd_ne (e := g) (i := 3) (j := 6) (by decide), upd_ne (e := g) (i := 3) (j := 7) (by decide), upd_eq]
  simp only [List.append_assoc, List.append_nil, List.nil_append]
theorem gset4 (c : List V) : (gq g t l r).take 104 ++ c ++ (gq g t l r).drop 130 = gq (upd g 4 c) t l r := by
  show List.take (0 + 26 + 26 + 26 + 26) _ ++ c ++ List.drop (0 + 26 + 26 + 26 + 26 + 26) _ = _
  unfold gq
  rw [gtk hg, gtk hg, gtk hg, gtk hg, gdr hg, gdr hg, gdr hg, gdr hg, gdr hg, List.drop_zero, List.take_zero]
  rw [upd_ne (e := g) (i := 4) (j := 0) (by decide), upd_ne (e := g) (i := 4) (j := 1) (by decide), upd_ne (e := g) (i := 4) (j := 2) (by decide), upd_ne (e := g) (i := 4) (j := 3) (by decide), upd_ne (e := g) (i := 4) (j := 5) (by decide), upd_ne (e := g) (i := 4) (j := 6) (by decide), upd_ne (e := g) (i := 4) (j := 7) (by decide), upd_eq]
  simp only [List.append_assoc, List.append_nil, List.nil_append]
theorem gset5 (c : List V) : (gq g t l r).take 130 ++ c ++ (gq g t l r).drop 156 = gq (upd g 5 c) t l r := by
  show List.take (0 + 26 + 26 + 26 + 26 + 26) _ ++ c ++ List.drop (0 + 26 + 26 + 26 + 26 + 26 + 26) _ = _
  unfold gq
  rw [gtk hg, gtk hg, gtk hg, gtk hg, gtk hg, gdr hg, gdr hg, gdr hg, gdr hg, gdr hg, gdr hg, List.drop_zero, List.take_zero]
  rw [upd_ne (e := g) (i := 5) (j := 0) (by decide), upd_ne (e := g) (i := 5) (j := 1) (by decide), upd_ne (e := g) (i := 5) (j := 2) (by decide), upd_ne (e := g) (i := 5) (j := 3) (by decide), upd_ne (e := g) (i := 5) (j := 4) (by decide), upd_ne (e := g) (i := 5) (j := 6) (by decide), upd_ne (e := g) (i := 5) (j := 7) (by decide), upd_eq]
  simp only [List.append_assoc, List.append_nil, List.nil_append]
theorem gset6 (c : List V) : (gq g t l r).take 156 ++ c ++ (gq g t l r).drop 182 = gq (upd g 6 c) t l r := by
  show List.take (0 + 26 + 26 + 26 + 26 + 26 + 26) _ ++ c ++ List.drop (0 + 26 + 26 + 26 + 26 + 26 + 26 + 26) _ = _
  unfold gq
  rw [gtk hg, gtk hg, gtk hg, gtk hg, gtk hg, gtk hg, gdr hg, gdr hg, gdr hg, gdr hg, gdr hg, gdr hg, gdr hg, List.drop_zero, List.take_zero]
  rw [upd_ne (e := g) (i := 6) (j := 0) (by decide), upd_ne (e := g) (i := 6) (j := 1) (by decide), upd_ne (e := g) (i := 6) (j := 2) (by decide), upd_ne (e := g) (i := 6) (j := 3) (by decide), upd_ne (e := g) (i := 6) (j := 4) (by decide), upd_ne (e := g) (i := 6) (j := 5) (by decide), upd_ne (e := g) (i := 6) (j := 7) (by decide), upd_eq]
  simp only [List.append_assoc, List.append_nil, List.nil_append]
theorem gset7 (c : List V) : (gq g t l r).take 182 ++ c ++ (gq g t l r).drop 208 = gq (upd g 7 c) t l r := by
  show List.take (0 + 26 + 26 + 26 + 26 + 26 + 26 + 26) _ ++ c ++ List.drop (0 + 26 + 26 + 26 + 26 + 26 + 26 + 26 + 26) _ = _
  unfold gq
  rw [gtk hg, gtk hg, gtk hg, gtk hg, gtk hg, gtk hg, gtk hg, gdr hg, gdr hg, gdr hg, gdr hg, gdr hg, gdr hg, gdr hg, gdr hg, List.drop_zero, List.take_zero]
  rw [upd_ne (e := g) (i := 7) (j := 0) (by decide), upd_ne (e := g) (i := 7) (j := 1) (by decide), upd_ne (e := g) (i := 7) (j := 2) (by decide), upd_ne (e := g) (i := 7) (j := 3) (by decide), upd_ne (e := g) (i := 7) (j := 4) (by decide), upd_ne (e := g) (i := 7) (j := 5) (by decide), upd_ne (e := g) (i := 7) (j := 6) (by decide), upd_eq]
  simp only [List.append_assoc, List.append_nil, List.nil_append]
theorem gqt (n : Nat) : (gq g t l r).take (n + 208) = g 0 ++ (g 1 ++ (g 2 ++ (g 3 ++ (g 4 ++ (g 5 ++ (g 6 ++ (g 7 ++ (scs 3 t ++ (l :: r :: scs 2 fun j => t (3 + j))).take n))))))) := by
  show List.take (n + 26 + 26 + 26 + 26 + 26 + 26 + 26 + 26) _ = _
  unfold gq
  rw [gtk hg, gtk hg, gtk hg, gtk hg, gtk hg, gtk hg, gtk hg, gtk hg]
theorem gx_set (n : Nat) (c : List V) (t' : Nat → Nat) (l' r' : V) (m : Nat) (h : (scs 3 t ++ (l :: r :: scs 2 fun j => t (3 + j))).take n ++ c ++ (scs 3 t ++ (l :: r :: scs 2 fun j => t (3 + j))).drop m = scs 3 t' ++ (l' :: r' :: scs 2 fun j => t' (3 + j))) : (gq g t l r).take (n + 208) ++ c ++ (gq g t l r).drop (m + 208) = gq g t' l' r' := by
  rw [gqt t l r hg, gqd t l r hg]
  unfold gq
  rw [← h]
  simp only [List.append_assoc]
theorem gt0 (x : Nat) : (gq g t l r).take 208 ++ lc x ++ (gq g t l r).drop 212 = gq g (fun a => if a = 0 then x else t a) l r := gx_set t l r hg 0 _ _ _ _ 4 rfl
theorem gt1 (x : Nat) : (gq g t l r).take 212 ++ lc x ++ (gq g t l r).drop 216 = gq g (fun a => if a = 1 then x else t a) l r := gx_set t l r hg 4 _ _ _ _ 8 rfl
theorem gt2 (x : Nat) : (gq g t l r).take 216 ++ lc x ++ (gq g t l r).drop 220 = gq g (fun a => if a = 2 then x else t a) l r := gx_set t l r hg 8 _ _ _ _ 12 rfl
theorem gt3 (x : Nat) : (gq g t l r).take 222 ++ lc x ++ (gq g t l r).drop 226 = gq g (fun a => if a = 3 then x else t a) l r := gx_set t l r hg 14 _ _ _ _ 18 rfl
theorem gt4 (x : Nat) : (gq g t l r).take 226 ++ lc x ++ (gq g t l r).drop 230 = gq g (fun a => if a = 4 then x else t a) l r := gx_set t l r hg 18 _ _ _ _ 22 rfl
theorem gt_l (x : V) : (gq g t l r).take 220 ++ [x] ++ (gq g t l r).drop 221 = gq g t x r := gx_set t l r hg 12 _ _ _ _ 13 rfl
theorem gt_r (x : V) : (gq g t l r).take 221 ++ [x] ++ (gq g t l r).drop 222 = gq g t l x := gx_set t l r hg 13 _ _ _ _ 14 rfl
end
theorem pq_up (F : Nat → Nat) (j : Nat) : ∀ a, a < 8 → upd (fun a => if a < j then ecs (D F a) else e0) j (ecs (D F j)) a = if a < j + 1 then ecs (D F a) else e0 := fun a _ => by
  unfold upd
  by_cases h : a = j
  · rw [if_pos h, if_pos (by omega), h]
  · rw [if_neg h]
    show (if a < j then ecs (D F a) else e0) = _
    by_cases h2 : a < j
    · rw [if_pos h2, if_pos (by omega)]
    · rw [if_neg h2, if_neg (by omega)]
theorem pt_up (F : Nat → Nat) (j : Nat) : ∀ a, a < 5 → (if a = j then D F (8 + j) else pt F j a) = pt F (j + 1) a := fun a _ => by
  unfold pt
  by_cases h : a = j
  · rw [if_pos h, if_pos (by omega), h]
  · rw [if_neg h]
    by_cases h2 : a < j
    · rw [if_pos h2, if_pos (by omega)]
    · rw [if_neg h2, if_neg (by omega)]
theorem pq_z (F : Nat → Nat) : pq F 0 = z230 := gq_congr _ _ (fun a _ => if_neg (Nat.not_lt_zero a)) fun _ _ => rfl
theorem pq_s0 (F : Nat → Nat) : ecs (D F 0) ++ (pq F 0).drop 26 = pq F 1 := (gset0 (g := fun a => if a < 0 then ecs (D F a) else e0) (fun _ => 0) .nils .nils (hpq F 0) (ecs (D F 0))).trans (gq_congr _ _ (pq_up F 0) fun _ _ => rfl)
theorem pq_s1 (F : Nat → Nat) : (pq F 1).take 26 ++ ecs (D F 1) ++ (pq F 1).drop 52 = pq F 2 := (gset1 (g := fun a => if a < 1 then ecs (D F a) else e0) (fun _ => 0) .nils .nils (hpq F 1) (ecs (D F 1))).trans (gq_congr _ _ (pq_up F 1) fun _ _ => rfl)
theorem pq_s2 (F : Nat → Nat) : (pq F 2).take 52 ++ ecs (D F 2) ++ (pq F 2).drop 78 = pq F 3 := (gset2 (g := fun a => if a < 2 then ecs (D F a) else e0) (fun _ => 0) .nils .nils (hpq F 2) (ecs (D F 2))).trans (gq_congr _ _ (pq_up F 2) fun _ _ => rfl)
theorem pq_s3 (F : Nat → Nat) : (pq F 3).take 78 ++ ecs (D F 3) ++ (pq F 3).drop 104 = pq F 4 := (gset3 (g := fun a => if a < 3 then ecs (D F a) else e0) (fun _ => 0) .nils .nils (hpq F 3) (ecs (D F 3))).trans (gq_congr _ _ (pq_up F 3) fun _ _ => rfl)
theorem pq_s4 (F : Nat → Nat) : (pq F 4).take 104 ++ ecs (D F 4) ++ (pq F 4).drop 130 = pq F 5 := (gset4 (g := fun a => if a < 4 then ecs (D F a) else e0) (fun _ => 0) .nils .nils (hpq F 4) (ecs (D F 4))).trans (gq_congr _ _ (pq_up F 4) fun _ _ => rfl)
theorem pq_s5 (F : Nat → Nat) : (pq F 5).take 130 ++ ecs (D F 5) ++ (pq F 5).drop 156 = pq F 6 := (gset5 (g := fun a => if a < 5 then ecs (D F a) else e0) (fun _ => 0) .nils .nils (hpq F 5) (ecs (D F 5))).trans (gq_congr _ _ (pq_up F 5) fun _ _ => rfl)
theorem pq_s6 (F : Nat → Nat) : (pq F 6).take 156 ++ ecs (D F 6) ++ (pq F 6).drop 182 = pq F 7 := (gset6 (g := fun a => if a < 6 then ecs (D F a) else e0) (fun _ => 0) .nils .nils (hpq F 6) (ecs (D F 6))).trans (gq_congr _ _ (pq_up F 6) fun _ _ => rfl)
theorem pq_s7 (F : Nat → Nat) : (pq F 7).take 182 ++ ecs (D F 7) ++ (pq F 7).drop 208 = pq F 8 := (gset7 (g := fun a => if a < 7 then ecs (D F a) else e0) (fun _ => 0) .nils .nils (hpq F 7) (ecs (D F 7))).trans (gq_congr _ _ (pq_up F 7) fun _ _ => rfl)
theorem pq_n (F : Nat → Nat) : pq F 8 = pn F 0 .nils .nils := gq_congr _ _ (fun a h => if_pos h) fun a _ => (if_neg (Nat.not_lt_zero a)).symm
theorem pn_s0 (F : Nat → Nat) (l r : V) : (pn F 0 l r).take 208 ++ lc (D F 8) ++ (pn F 0 l r).drop 212 = pn F 1 l r := (gt0 (g := fun a => ecs (D F a)) (pt F 0) l r (hec F) (D F 8)).trans (gq_congr _ _ (fun _ _ => rfl) (pt_up F 0))
theorem pn_s1 (F : Nat → Nat) (l r : V) : (pn F 1 l r).take 212 ++ lc (D F 9) ++ (pn F 1 l r).drop 216 = pn F 2 l r := (gt1 (g := fun a => ecs (D F a)) (pt F 1) l r (hec F) (D F 9)).trans (gq_congr _ _ (fun _ _ => rfl) (pt_up F 1))
theorem pn_s2 (F : Nat → Nat) (l r : V) : (pn F 2 l r).take 216 ++ lc (D F 10) ++ (pn F 2 l r).drop 220 = pn F 3 l r := (gt2 (g := fun a => ecs (D F a)) (pt F 2) l r (hec F) (D F 10)).trans (gq_congr _ _ (fun _ _ => rfl) (pt_up F 2))
theorem pn_l (F : Nat → Nat) (j : Nat) (l r x : V) : (pn F j l r).take 220 ++ [x] ++ (pn F j l r).drop 221 = pn F j x r := gt_l (g := fun a => ecs (D F a)) (pt F j) l r (hec F) x
theorem pn_r (F : Nat → Nat) (j : Nat) (l r x : V) : (pn F j l r).take 221 ++ [x] ++ (pn F j l r).drop 222 = pn F j l x := gt_r (g := fun a => ecs (D F a)) (pt F j) l r (hec F) x
theorem pn_gl (F : Nat → Nat) (j : Nat) (l r : V) : ((pn F j l r).drop 220).take 1 = [l] := gql (g := fun a => ecs (D F a)) (pt F j) l r (hec F)
theorem pn_gr (F : Nat → Nat) (j : Nat) (l r : V) : ((pn F j l r).drop 221).take 1 = [r] := gqr (g := fun a => ecs (D F a)) (pt F j) l r (hec F)
def pt5 (F : Nat → Nat) (k a : Nat) : Nat := if a < 3 then D F (8 + a) else if a = 3 then D F (11 + 2 * k) else D F (12 + 2 * k)
def pf5 (F : Nat → Nat) (k : Nat) (l r : V) : List V := gq (fun a => ecs (D F a)) (pt5 F k) l r
def pe4 (F : Nat → Nat) (k : Nat) (l r : V) : List V := gq (fun a => ecs (D F a)) (fun a => if a < 3 then D F (8 + a) else if a = 3 then D F (11 + 2 * k) else 0) l r
theorem pe4_len (F : Nat → Nat) (k : Nat) (l r : V) : (pe4 F k l r).length = 230 := gq_len (g := fun a => ecs (D F a)) _ _ _ (hec F)
theorem pf5_len (F : Nat → Nat) (k : Nat) (l r : V) : (pf5 F k l r).length = 230 := gq_len (g := fun a => ecs (D F a)) _ _ _ (hec F)
theorem pn_e (F : Nat → Nat) (k : Nat) (l r : V) : (pn F 3 l r).take 222 ++ lc (D F (11 + 2 * k)) ++ (pn F 3 l r).drop 226 = pe4 F k l r := (gt3 (g := fun a => ecs (D F a)) (pt F 3) l r (hec F) (D F (11 + 2 * k))).trans (gq_congr _ _ (fun _ _ => rfl) (fun a ha => by
  unfold pt
  by_cases h : a = 3
  · rw [if_pos h, if_neg (by omega), if_pos h]
  · rw [if_neg h]
    by_cases h2 : a < 3
    · rw [if_pos h2, if_pos h2]
    · rw [if_neg h2, if_neg h2, if_neg h]))
theorem pe4_e (F : Nat → Nat) (k : Nat) (l r : V) : (pe4 F k l r).take 226 ++ lc (D F (12 + 2 * k)) ++ (pe4 F k l r).drop 230 = pf5 F k l r := (gt4 (g := fun a => ecs (D F a)) (fun a => if a < 3 then D F (8 + a) else if a = 3 then D F (11 + 2 * k) else 0) l r (hec F) (D F (12 + 2 * k))).trans (gq_congr _ _ (fun _ _ => rfl) (fun a ha => by
  unfold pt5
  by_cases h : a = 4
  · subst h; rw [if_pos rfl, if_neg (by decide), if_neg (by decide)]
  · rw [if_neg h]
    by_cases h2 : a < 3
    · rw [if_pos h2, if_pos h2]
    · rw [if_neg h2, if_neg h2, if_pos (by omega), if_pos (by omega)]))
theorem pn_ren (F : Nat → Nat) (j : Nat) (l r : V) (f : Nat → Nat) : rens f (pn F j l r) = pn F j (ren f l) (ren f r) := gq_ren _ _ _ _ (fun j f => ecs_rens _ f) f
theorem pf5_ren (F : Nat → Nat) (k : Nat) (l r : V) (f : Nat → Nat) : rens f (pf5 F k l r) = pf5 F k (ren f l) (ren f r) := gq_ren _ _ _ _ (fun j f => ecs_rens _ f) f
theorem pf5_known (F : Nat → Nat) (k : Nat) {l r : V} (hl : l.known = true) (hr : r.known = true) : (pf5 F k l r).all V.known = true := gq_known _ (fun _ => rfl) hl hr
theorem pf5_one (F : Nat → Nat) (k : Nat) {l r : V} (hl : l.one = true) (hr : r.one = true) : (pf5 F k l r).all V.one = true := by
  simp only [pf5, gq, List.all_append, List.all_cons, ecs_one, hl, hr, scs_one, Bool.and_self]
end Go.Vs.Tryd
namespace Go.Vs.Tryd
open Go.Proofs
variable {G : Nat → List V}
set_option linter.unusedSimpArgs false
attribute [local go_sem] lenO_nils lenO_sl sliceAtV Int.sub_zero List.length_append List.all_append ge_iff_le gt_iff_lt Int.natCast_nonneg Int.toNat_natCast Nat.mul_one b_and_ll b_shr_ll b_mul_ll b_add_ll b_or_ll b_shl_ll pick_ll pick_lc pick_bb driveS stopV Option.isSome_some Option.isSome_none Kind.m Kind.w Kind.g look_ro look_rw look_grow drive stepV exo expo evs fillV isNil nilKind eqV eqL optA optM sliceAtV ev kn ldc stc splice appV srcV lenV setd wantV exitV rvs rv one List.length_cons List.length_nil List.cons_append List.nil_append List.append_nil List.replicate List.getD_cons_zero List.getD_cons_succ List.set_cons_zero List.set_cons_succ List.getElem?_cons_zero List.getElem?_cons_succ List.getElem?_nil List.take_succ_cons List.take_zero List.take_nil List.drop_succ_cons List.drop_zero List.drop_nil List.all_cons List.all_nil List.any_cons List.any_nil Bool.and_true Bool.true_and Bool.and_self Option.map_some Option.map_none Option.bind_some Option.some.injEq Nat.add_zero Nat.zero_add Int.toNat_zero Int.toNat_one Int.zero_add Int.add_zero if_true if_false ite_true ite_false and_true true_and and_self ne_eq not_false_eq_true not_true_eq_false decide_true decide_false Bool.false_eq_true Bool.not_true Bool.not_false beq_self_eq_true BEq.rfl Bool.not_eq_true Nat.le_refl Int.le_refl Nat.zero_le List.foldl List.map_cons List.map_nil Prod.mk.injEq Int.cast_ofNat_Int Int.zero_le_ofNat b_add_cc b_add_cl b_add_lc b_mul_cc b_mul_cl b_mul_lc b_sub_cc b_sub_cl b_sub_lc b_and_cc b_and_cl b_and_lc b_or_cc b_or_cl b_or_lc b_xor_cc b_xor_cl b_xor_lc b_andNot_cc b_andNot_cl b_andNot_lc b_shr_cc b_shr_cl b_shr_lc b_shl_cc b_shl_cl b_shl_lc b_lss b_leq b_gtr b_geq b_add_i b_sub_i b_mul_i beq_cc beq_cl beq_lc beq_ll b_quo_i b_rem_i neg_u64 wrap_i64 driveD stepD idsAt idOf maskH_nil restore_nil restore_mask List.filterMap_nil List.filterMap_cons VOp.looks VOp.makes exA cells_agg cells_int cells_bool cells_str cells_nilp cells_ptr cells_glob cells_nils cells_sl cells_nilf cells_fn cells_nili cells_ifc known_agg known_tup known_int known_bool known_str known_nilp known_ptr known_glob known_nils known_sl known_nilf known_fn known_nili known_ifc known_unk one_agg one_tup one_int one_bool one_str one_nilp one_ptr one_glob one_nils one_sl one_nilf one_fn one_nili one_ifc asK_int asN_int asB_bool asS_str asG_agg asT_tup true_or or_true false_or or_false
attribute [local go_sem_proc] Nat.reduceAdd Nat.reduceSub Nat.reduceLeDiff Nat.reduceMul Nat.reduceLT Nat.reduceEqDiff Int.reduceLT Int.reduceLE Int.reduceAdd Int.reduceSub Int.reduceMul Int.reduceToNat reduceIte reduceCtorEq Nat.reduceBEq
section
attribute [local go_sem ↓] lc_len lc_take lc_drop lc_known lc_one lc_rens lc_cells lw_known lw_agg lw_asG scs_known scs_one scs_len
attribute [local go_sem ↓] brow_len brow_known brow_one brow_rens bw_known bw_agg bw_cells bw_asG
attribute [local go_sem ↓] ecs_len ecs_take ecs_drop ecs_known ecs_one ecs_rens ecs_fit ecs_cells ew_known ew_agg ew_asG ecs_kind ecs_k ecs_l ers_known ers_one ers_len ers_rens ers_fit ecs_take_add ecs_drop_add lc_take_add lc_drop_add lenO_de de_known de_one
attribute [local go_sem] lt_nat lt_natl lt_lnat lt_ll bool_tf bool_ft
set_option maxRecDepth 100000
set_option maxHeartbeats 4000000
def tm9 (k i : Nat) : List V := [.unk, .unk, .unk, .unk, .ptr 1 0, .unk, .int .i64 k, .ptr 2 0, .ptr 3 0, .int .i64 i] ++ List.replicate 94 .unk
def hp9 (N m k : Nat) (F : Nat → Nat) (i : Nat) : Heap := [some ⟨.ro, brow N F⟩, some ⟨.rw, z230⟩, some ⟨.rw, cutc F m (13 + 2 * k) (11 + 2 * i)⟩, some ⟨.rw, pn F 3 (de 4 i) (de 5 i)⟩, ebg (fun j => D F (11 + 2 * j)) i, ebg (fun j => D F (12 + 2 * j)) i]
theorem r9_loop (N m k : Nat) (F : Nat → Nat) (hF : ∀ j, F j < 256) (hk : k ≤ 10) (hN : 32 * (13 + 2 * k) ≤ N) (hm : 32 * (13 + 2 * k) ≤ m) {Q : V → Heap → Prop} {K : List TI}
    (hQ : Run Tryd.prog G 9 1 Q (K, ⟨tm9 k k, hp9 N m k F k⟩)) : ∀ n i, i + n = k →
    Run Tryd.prog G 9 1 Q (.l v9_23 :: .b 0 :: K, ⟨tm9 k i, hp9 N m k F i⟩)
  | 0, i, e => by
    obtain rfl : i = k := by omega
    have h0 : ((i : Int) < (i : Int)) = False := eq_false (by omega)
    unfold tm9 at hQ ⊢
    refine run_loop_eq v9_23.eq_1 ?_
    refine run_driveS 80 ?_
    simp only [go_sem, v9_18, h0]
    refine run_exit rfl ?_
    refine run_tmps ?_ hQ
    simp only [go_sem, forg, true_or, or_true]
  | n + 1, i, e => by
    have ih := r9_loop N m k F hF hk hN hm hQ n (i + 1) (by omega)
    have hi : i < k := by omega
    have h0 : ((i : Int) < (k : Int)) = True := eq_true (by omega)
    have e1 : 11 + 2 * i + 1 = 12 + 2 * i := by omega
    have e2 : 12 + 2 * i + 1 = 11 + 2 * (i + 1) := by omega
    have gl := pn_gl F 3 (de 4 i) (de 5 i)
    have gn := pn_len F 3
    have sl := pn_l F 3
    have gr := pn_gr F 3
    have sr := pn_r F 3
    have hw : IntKind.i64.wrap ((i : Int) + 1) = ((i + 1 : Nat) : Int) := by rw [wrap_i64 (by omega) (by omega)]; omega
    unfold tm9 hp9 at ih
    rw [de_pos (by omega), de_pos (by omega), ebg_pos (by omega), ebg_pos (by omega)] at ih
    unfold tm9 hp9
    by_cases hz : i = 0
    · subst hz
      have hw0 : IntKind.i64.wrap 1 = 1 := by decide
      have h0' : ((0 : Int) < (k : Int)) = True := eq_true (by omega)
      rw [de_zero, de_zero, ebg_zero, ebg_zero]
      rw [de_zero, de_zero] at gl
      refine run_loop_eq v9_23.eq_1 ?_
      refine run_driveS 80 ?_
      simp only [go_sem, v9_18, v9_21, h0']
      refine run_drw (by kernel_rfl) ?_
      refine drun_drive 40 (p := (_, _)) ?_
      simp only [go_sem, v9_19, gl, gn, restore, Option.join_some, maskH, List.mapIdx_cons, List.mapIdx_nil, List.contains_cons, List.contains_nil, Bool.or_false, Bool.or_true, Bool.false_or, Bool.true_or, Nat.reduceBEq]
      refine drun_call' ?_
      simp only [go_sem, calV, restore, Option.join_some, maskH, List.mapIdx_cons, List.mapIdx_nil, List.contains_cons, List.contains_nil, Bool.or_false, Bool.or_true, Bool.false_or, Bool.true_or, Nat.reduceBEq]
      refine el_s hF hN hm (by omega) ?_
      refine drun_drive 40 (p := (_, _)) ?_
      simp only [go_sem, gn, sl, restore, Option.join_some, maskH, List.mapIdx_cons, List.mapIdx_nil, List.contains_cons, List.contains_nil, Bool.or_false, Bool.or_true, Bool.false_or, Bool.true_or, Nat.reduceBEq]
      refine drun_end ?_
      refine run_drw (by kernel_rfl) ?_
      refine drun_drive 40 (p := (_, _)) ?_
      simp only [go_sem, v9_20, gr, gn, restore, Option.join_some, maskH, List.mapIdx_cons, List.mapIdx_nil, List.contains_cons, List.contains_nil, Bool.or_false, Bool.or_true, Bool.false_or, Bool.true_or, Nat.reduceBEq]
      refine drun_call' ?_
      simp only [go_sem, calV, restore, Option.join_some, maskH, List.mapIdx_cons, List.mapIdx_nil, List.contains_cons, List.contains_nil, Bool.or_false, Bool.or_true, Bool.false_or, Bool.true_or, Nat.reduceBEq]
      refine el_s hF hN hm (by omega) ?_
      refine drun_drive 40 (p := (_, _)) ?_
      simp only [go_sem, gn, sr, restore, Option.join_some, maskH, List.mapIdx_cons, List.mapIdx_nil, List.contains_cons, List.contains_nil, Bool.or_false, Bool.or_true, Bool.false_or, Bool.true_or, Nat.reduceBEq]
      refine drun_end ?_
      refine run_driveS 80 ?_
      simp only [go_sem, v9_22, hw0]
      refine run_rename [0, 1, 2, 3, 7, 9] rfl (by simp) ?_ (uniq_nodup (by decide)) ?_ ih
      · exact hfit_cons rfl (bfit_g (brow_rens ..)) (hfit_cons rfl (bfit_g (z230_rens _)) (hfit_cons rfl (bfit_rw rfl) (hfit_cons rfl (bfit_rw (by rw [pn_ren]; rfl)) (hfit_cons rfl (bfit_rw ((ers_rens ..).trans rfl)) (hfit_cons rfl (bfit_rw ((ers_rens ..).trans rfl)) hfit_nil)))))
      · simp only [go_sem, fit, ren, gmap, true_or, or_true]
    · have hz : 0 < i := by omega
      rw [de_pos hz, de_pos hz, ebg_pos hz, ebg_pos hz]
      rw [de_pos hz, de_pos hz] at gl
      have a1 : ((i + 1) * 224 ≤ 140737488355328) = True := eq_true (by omega)
      have a2 : (i + 1 ≤ 9223372036854775807) = True := eq_true (by omega)
      have a3 := ers_snoc i (fun j => D F (11 + 2 * j)) (v := D F (11 + 2 * i)) rfl
      have a4 := ers_snoc i (fun j => D F (12 + 2 * j)) (v := D F (12 + 2 * i)) rfl
      refine run_loop_eq v9_23.eq_1 ?_
      refine run_driveS 80 ?_
      simp only [go_sem, v9_18, v9_21, h0]
      refine run_drw (by kernel_rfl) ?_
      refine drun_drive 40 (p := (_, _)) ?_
      simp only [go_sem, v9_19, gl, gn, restore, Option.join_some, maskH, List.mapIdx_cons, List.mapIdx_nil, List.contains_cons, List.contains_nil, Bool.or_false, Bool.or_true, Bool.false_or, Bool.true_or, Nat.reduceBEq]
      refine drun_call' ?_
      simp only [go_sem, calV, restore, Option.join_some, maskH, List.mapIdx_cons, List.mapIdx_nil, List.contains_cons, List.contains_nil, Bool.or_false, Bool.or_true, Bool.false_or, Bool.true_or, Nat.reduceBEq]
      refine el_s hF hN hm (by omega) ?_
      refine drun_drive 40 (p := (_, _)) ?_
      simp only [go_sem, e1, gn, sl, a1, a2, a3, restore, Option.join_some, maskH, List.mapIdx_cons, List.mapIdx_nil, List.contains_cons, List.contains_nil, Bool.or_false, Bool.or_true, Bool.false_or, Bool.true_or, Nat.reduceBEq]
      refine drun_end ?_
      refine run_drw (by kernel_rfl) ?_
      refine drun_drive 40 (p := (_, _)) ?_
      simp only [go_sem, v9_20, gr, gn, restore, Option.join_some, maskH, List.mapIdx_cons, List.mapIdx_nil, List.contains_cons, List.contains_nil, Bool.or_false, Bool.or_true, Bool.false_or, Bool.true_or, Nat.reduceBEq]
      refine drun_call' ?_
      simp only [go_sem, calV, restore, Option.join_some, maskH, List.mapIdx_cons, List.mapIdx_nil, List.contains_cons, List.contains_nil, Bool.or_false, Bool.or_true, Bool.false_or, Bool.true_or, Nat.reduceBEq]
      refine el_s hF hN hm (by omega) ?_
      refine drun_drive 40 (p := (_, _)) ?_
      simp only [go_sem, e2, gn, sr, a1, a2, a4, restore, Option.join_some, maskH, List.mapIdx_cons, List.mapIdx_nil, List.contains_cons, List.contains_nil, Bool.or_false, Bool.or_true, Bool.false_or, Bool.true_or, Nat.reduceBEq]
      refine drun_end ?_
      refine run_driveS 80 ?_
      simp only [go_sem, v9_22, hw]
      refine run_rename [0, 1, 2, 3, 7, 9] rfl (by simp) ?_ (uniq_nodup (by decide)) ?_ ih
      · exact hfit_cons rfl (bfit_g (brow_rens ..)) (hfit_cons rfl (bfit_g (z230_rens _)) (hfit_cons rfl (bfit_rw rfl) (hfit_cons rfl (bfit_rw (by rw [pn_ren]; rfl)) (hfit_cons rfl (bfit_g (ers_rens ..)) (hfit_cons rfl (bfit_g (ers_rens ..)) hfit_nil)))))
      · simp only [go_sem, fit, ren, gmap, true_or, or_true]
end
section
attribute [local go_sem ↓] lc_len lc_take lc_drop lc_known lc_one lc_rens lc_cells lw_known lw_agg lw_asG scs_known scs_one scs_len
attribute [local go_sem ↓] brow_len brow_known brow_one brow_rens bw_known bw_agg bw_cells bw_asG
attribute [local go_sem ↓] ecs_len ecs_take ecs_drop ecs_known ecs_one ecs_rens ecs_fit ecs_cells ew_known ew_agg ew_asG ecs_kind ecs_k ecs_l ers_known ers_one ers_len ers_rens ers_fit ecs_take_add ecs_drop_add lc_take_add lc_drop_add lenO_de de_known de_one
attribute [local go_sem] lt_nat lt_natl lt_lnat lt_ll bool_tf bool_ft
set_option maxRecDepth 100000
set_option maxHeartbeats 4000000
def cutl (F : Nat → Nat) (m T i : Nat) : List V := [.int .i64 2, .sl 0 (32 * i + adv (m - 32 * i)) (32 * (T - i) - 32) (.exact (m - 32 * i - 32)), .int .i64 (er F T)]
theorem nu_l {N m T : Nat} {F : Nat → Nat} (hF : ∀ j, F j < 256) (hN : 32 * T ≤ N) (hm : 32 * T ≤ m) {z : Option Blk} {rest : Heap} {i : Nat} (hi : i + 1 = T) {R : V → Heap → Prop} (hR : R (lw (D F i)) (some ⟨.ro, brow N F⟩ :: z :: some ⟨.rw, cutl F m T i⟩ :: rest)) :
    VCall Tryd.prog G 22 [.ptr 2 0] (some ⟨.ro, brow N F⟩ :: z :: some ⟨.rw, cutc F m T i⟩ :: rest) R := by
  subst hi
  exact nu_any hF hN hm (Nat.lt_succ_self _) hR
theorem z230_len : z230.length = 230 := by rfl
theorem z230_drop : z230.drop 230 = [] := List.drop_eq_nil_of_le (by rw [z230_len]; exact Nat.le_refl _)
theorem pf5_take (F : Nat → Nat) (k : Nat) (l r : V) : (pf5 F k l r).take 230 = pf5 F k l r := List.take_of_length_le (by rw [pf5_len]; exact Nat.le_refl _)
theorem cutl_len (F : Nat → Nat) (m T i : Nat) : (cutl F m T i).length = 3 := rfl
theorem cutl_e (F : Nat → Nat) (m T i : Nat) : ((cutl F m T i).drop 2).take 1 = [.int .i64 (er F T)] := rfl
theorem r_decode_ok (N m k : Nat) (F : Nat → Nat) (hF : ∀ j, F j < 256) (hk : k ≤ 10) (hN : 32 * (13 + 2 * k) ≤ N) (hm : 32 * (13 + 2 * k) ≤ m) {Q : V → Heap → Prop}
    (hQ : Q (if er F (13 + 2 * k) = 0 then .tup [.agg (pf5 F k (de 1 k) (de 2 k)), .int .i64 0] else .tup [.agg z230, .int .i64 (er F (13 + 2 * k))]) [none, ebg (fun j => D F (11 + 2 * j)) k, ebg (fun j => D F (12 + 2 * j)) k]) : VCall Tryd.prog G 9 [.int .i64 2, .sl 0 0 (32 * (13 + 2 * k)) (.exact m)] [some ⟨.ro, brow N F⟩] Q := by
  have hk0 : ((k : Int) < 0) = False := eq_false (by omega)
  have c1 : ((10 : Int) < (k : Int)) = False := eq_false (by omega)
  have q1 : binI .quo .i64 ((32 * (13 + 2 * k) : Nat) : Int) .i64 32 = some (.int .i64 ((13 + 2 * k : Nat) : Int)) := by
    rw [b_quo_i _ _ (by decide), Int.tdiv_eq_ediv_of_nonneg (by omega), wrap_i64 (by omega) (by omega)]
    congr 2
    omega
  have q2 : IntKind.i64.wrap (((13 + 2 * k : Nat) : Int) - 13) = ((2 * k : Nat) : Int) := by rw [wrap_i64 (by omega) (by omega)]; omega
  have q3 : binI .quo .i64 ((2 * k : Nat) : Int) .i64 2 = some (.int .i64 (k : Int)) := by
    rw [b_quo_i _ _ (by decide), Int.tdiv_eq_ediv_of_nonneg (by omega), wrap_i64 (by omega) (by omega)]
    congr 2
    omega
  have q4 : IntKind.i64.wrap (2 * (k : Int)) = ((2 * k : Nat) : Int) := by rw [wrap_i64 (by omega) (by omega)]; omega
  have q5 : IntKind.i64.wrap (13 + ((2 * k : Nat) : Int)) = ((13 + 2 * k : Nat) : Int) := by rw [wrap_i64 (by omega) (by omega)]; omega
  have q6 : IntKind.i64.wrap (32 * ((13 + 2 * k : Nat) : Int)) = ((32 * (13 + 2 * k) : Nat) : Int) := by rw [wrap_i64 (by omega) (by omega)]; omega
  have e1 : 11 + 2 * k + 1 = 12 + 2 * k := by omega
  have hpl := pq_len F
  have hnl := pn_len F
  have s0 := pq_s0 F
  have s1 := pq_s1 F
  have s2 := pq_s2 F
  have s3 := pq_s3 F
  have s4 := pq_s4 F
  have s5 := pq_s5 F
  have s6 := pq_s6 F
  have s7 := pq_s7 F
  have s8 := pq_n F
  have t0 := pn_s0 F .nils .nils
  have t1 := pn_s1 F .nils .nils
  have t2 := pn_s2 F .nils .nils
  refine vcall_body Tryd.func9 nm9 code9 nt9 ?_
  refine run_driveS 80 ?_
  simp only [go_sem, v9, v9_0]
  refine run_driveS 80 ?_
  simp only [go_sem, v9_1, v9_2, q1, q2, q3, q4, q5, q6, hk0, c1]
  refine run_cond_f (by rfl) ?_
  refine run_driveS 80 ?_
  simp only [go_sem, v9_4]
  refine run_driveS 80 ?_
  simp only [go_sem, v9_5]
  refine run_rename [0, 1, 2, 3] (st' := ⟨[.unk, .unk, .unk, .unk, .ptr 1 0, .unk, .int .i64 k, .ptr 2 0, .ptr 3 0] ++ List.replicate 26 .unk ++ [.ptr 2 0] ++ List.replicate 68 .unk, [some ⟨.ro, brow N F⟩, some ⟨.rw, z230⟩, some ⟨.rw, cutc F m (13 + 2 * k) 0⟩, some ⟨.rw, pq F 0⟩]⟩) rfl (by simp) ?_ (uniq_nodup (by decide)) ?_ ?_
  · exact hfit_cons rfl (bfit_g (brow_rens ..)) (hfit_cons rfl (bfit_rw ((z230_rens _).trans rfl)) (hfit_cons rfl (bfit_rw rfl) (hfit_cons rfl (bfit_rw (by rw [pq_z]; exact (z230_rens _).trans rfl)) hfit_nil)))
  · simp only [go_sem, fit, ren, gmap, true_or, or_true]
  refine run_driveS 80 ?_
  simp only [go_sem, v9_6]
  refine run_call' rfl ?_
  simp only [go_sem, calV]
  refine el_s hF hN hm (by omega) ?_
  refine run_driveS 80 ?_
  simp only [go_sem, hpl, s0]
  refine run_driveS 80 ?_
  simp only [go_sem, v9_7]
  refine run_call' rfl ?_
  simp only [go_sem, calV]
  refine el_s hF hN hm (by omega) ?_
  refine run_driveS 80 ?_
  simp only [go_sem, hpl, s1]
  refine run_driveS 80 ?_
  simp only [go_sem, v9_8]
  refine run_call' rfl ?_
  simp only [go_sem, calV]
  refine el_s hF hN hm (by omega) ?_
  refine run_driveS 80 ?_
  simp only [go_sem, hpl, s2]
  refine run_driveS 80 ?_
  simp only [go_sem, v9_9]
  refine run_call' rfl ?_
  simp only [go_sem, calV]
  refine el_s hF hN hm (by omega) ?_
  refine run_driveS 80 ?_
  simp only [go_sem, hpl, s3]
  refine run_driveS 80 ?_
  simp only [go_sem, v9_10]
  refine run_call' rfl ?_
  simp only [go_sem, calV]
  refine el_s hF hN hm (by omega) ?_
  refine run_driveS 80 ?_
  simp only [go_sem, hpl, s4]
  refine run_driveS 80 ?_
  simp only [go_sem, v9_11]
  refine run_call' rfl ?_
  simp only [go_sem, calV]
  refine el_s hF hN hm (by omega) ?_
  refine run_driveS 80 ?_
  simp only [go_sem, hpl, s5]
  refine run_driveS 80 ?_
  simp only [go_sem, v9_12]
  refine run_call' rfl ?_
  simp only [go_sem, calV]
  refine el_s hF hN hm (by omega) ?_
  refine run_driveS 80 ?_
  simp only [go_sem, hpl, s6]
  refine run_driveS 80 ?_
  simp only [go_sem, v9_13]
  refine run_call' rfl ?_
  simp only [go_sem, calV]
  refine el_s hF hN hm (by omega) ?_
  refine run_driveS 80 ?_
  simp only [go_sem, hpl, s7, s8]
  refine run_driveS 80 ?_
  simp only [go_sem, v9_14]
  refine run_call' rfl ?_
  simp only [go_sem, calV]
  refine nu_s hF hN hm (by omega) ?_
  refine run_driveS 80 ?_
  simp only [go_sem, hnl, t0]
  refine run_driveS 80 ?_
  simp only [go_sem, v9_15]
  refine run_call' rfl ?_
  simp only [go_sem, calV]
  refine nu_s hF hN hm (by omega) ?_
  refine run_driveS 80 ?_
  simp only [go_sem, hnl, t1]
  refine run_driveS 80 ?_
  simp only [go_sem, v9_16]
  refine run_call' rfl ?_
  simp only [go_sem, calV]
  refine nu_s hF hN hm (by omega) ?_
  refine run_driveS 80 ?_
  simp only [go_sem, hnl, t2]
  refine run_driveS 80 ?_
  simp only [go_sem, v9_17, v9_24]
  refine run_rename [0, 1, 2, 3, 4, 5] (st' := ⟨tm9 k 0, hp9 N m k F 0⟩) rfl (by simp) ?_ (uniq_nodup (by decide)) ?_ ?_
  · exact hfit_cons rfl (bfit_g (brow_rens ..)) (hfit_cons rfl (bfit_g (z230_rens _)) (hfit_cons rfl (bfit_rw rfl) (hfit_cons rfl (bfit_rw (by rw [pn_ren]; rfl)) (hfit_cons_none (hfit_cons_none hfit_nil)))))
  · simp only [go_sem, tm9, fit, ren, gmap, true_or, or_true]
  refine r9_loop N m k F hF hk hN hm ?_ k 0 (by omega)
  have n1 := pn_e F k (de 4 k) (de 5 k)
  have n2 := pe4_e F k (de 4 k) (de 5 k)
  have n3 := pe4_len F k (de 4 k) (de 5 k)
  have n4 := pf5_len F k (de 4 k) (de 5 k)
  have n5 := pf5_known F k (de_known 4 k) (de_known 5 k)
  have n6 := pf5_one F k (de_one 4 k) (de_one 5 k)
  have n7 := pf5_take F k (de 4 k) (de 5 k)
  unfold tm9 hp9
  refine run_driveS 80 ?_
  simp only [go_sem, v9_25]
  refine run_call' rfl ?_
  simp only [go_sem, calV]
  refine nu_s hF hN hm (by omega) ?_
  refine run_driveS 80 ?_
  simp only [go_sem, hnl, n1, e1]
  refine run_driveS 80 ?_
  simp only [go_sem, v9_26]
  refine run_call' rfl ?_
  simp only [go_sem, calV]
  refine nu_l hF hN hm (by omega) ?_
  refine run_driveS 80 ?_
  simp only [go_sem, n3, n2]
  have l1 := cutl_len F m (13 + 2 * k) (12 + 2 * k)
  have l2 := cutl_e F m (13 + 2 * k) (12 + 2 * k)
  by_cases hc : er F (13 + 2 * k) = 0
  · have hb : (er F (13 + 2 * k) == 0) = true := by simpa using hc
    rw [if_pos hc] at hQ
    refine run_driveS 80 ?_
    simp only [go_sem, v9_27, l1, l2, hb]
    refine run_cond_f (by rfl) ?_
    refine run_driveS 80 ?_
    simp only [go_sem, v9_29, n4, n5, n6, n7, z230_len, z230_drop]
    refine run_ret_drop Tryd.func9 res9 [0, 4, 5] (.tup [.agg (pf5 F k (de 1 k) (de 2 k)), .int .i64 0]) _ rfl (by simp) ?_ ?_ ?_ hQ
    · exact hfit_cons_none (hfit_cons rfl (ebg_fit ..) (hfit_cons rfl (ebg_fit ..) hfit_nil))
    · exact uniq_nodup (by decide)
    · simp only [go_sem, rr9, rens, ren, gmap, n4, n5, n7, pf5_ren, de_ren]
  · have hb : (er F (13 + 2 * k) == 0) = false := by simpa using hc
    rw [if_neg hc] at hQ
    refine run_driveS 80 ?_
    simp only [go_sem, v9_27, l1, l2, hb]
    refine run_cond_t (by rfl) ?_
    refine run_driveS 80 ?_
    simp only [go_sem]
    refine run_drw (by kernel_rfl) ?_
    refine drun_drive 40 (p := (_, _)) ?_
    simp only [go_sem, v9_28, l1, l2, z230_len, z230_drop, restore, Option.join_some, maskH, List.mapIdx_cons, List.mapIdx_nil, List.contains_cons, List.contains_nil, Bool.or_false, Bool.or_true, Bool.false_or, Bool.true_or, Nat.reduceBEq]
    refine drun_end ?_
    refine run_driveS 80 ?_
    simp only [go_sem]
    refine run_ret_drop Tryd.func9 res9 [0, 4, 5] (.tup [.agg z230, .int .i64 (er F (13 + 2 * k))]) _ rfl (by simp) ?_ ?_ ?_ hQ
    · exact hfit_cons_none (hfit_cons rfl (ebg_fit ..) (hfit_cons rfl (ebg_fit ..) hfit_nil))
    · exact uniq_nodup (by decide)
    · simp only [go_sem, rr9, rens, ren, gmap, z230_rens]
      rfl
end
section
attribute [local go_sem ↓] lc_len lc_take lc_drop lc_known lc_one lc_rens lc_cells lw_known lw_agg lw_asG scs_known scs_one scs_len
attribute [local go_sem ↓] brow_len brow_known brow_one brow_rens bw_known bw_agg bw_cells bw_asG
attribute [local go_sem ↓] ecs_len ecs_take ecs_drop ecs_known ecs_one ecs_rens ecs_fit ecs_cells ew_known ew_agg ew_asG ecs_kind ecs_k ecs_l ers_known ers_one ers_len ers_rens ers_fit ecs_take_add ecs_drop_add lc_take_add lc_drop_add lenO_de de_known de_one
attribute [local go_sem] lt_nat lt_natl lt_lnat lt_ll bool_tf bool_ft
set_option maxRecDepth 100000
set_option maxHeartbeats 4000000
theorem r_decode_bad (n : Nat) (bV : V) (hl : lenO bV = some n) (hbk : bV.known = true) (hn : n < 1152921504606846976) (hb : ∀ k : Nat, k ≤ 10 → n ≠ 32 * (13 + 2 * k)) {Q : V → Heap → Prop}
    (hQ : Q (.tup [.agg z230, .int .i64 2]) [none]) : VCall Tryd.prog G 9 [.int .i64 2, bV] [none] Q := by
  obtain ⟨K, k1, k2, k3, k4⟩ := cut_k n hn
  have q0 : binI .quo .i64 (n : Int) .i64 32 = some (.int .i64 (IntKind.i64.wrap ((n : Int).tdiv 32))) := b_quo_i _ _ (by decide)
  refine vcall_body Tryd.func9 nm9 code9 nt9 ?_
  by_cases h1 : K < 0
  · have c1 : (K < 0) = True := eq_true h1
    refine run_driveS 80 ?_
    simp only [go_sem, v9, v9_0, v9_1, v9_2, q0, hl, hbk, k3, c1]
    refine run_cond_t (by rfl) ?_
    refine run_driveS 80 ?_
    simp only [go_sem, v9_3]
    refine run_ret_drop Tryd.func9 res9 [0] (.tup [.agg z230, .int .i64 2]) _ rfl (by simp) ?_ ?_ ?_ hQ
    · exact hfit_cons_none hfit_nil
    · exact uniq_nodup (by decide)
    · simp only [go_sem, rr9, rens, ren, gmap, z230_rens]
      rfl
  · have c1 : (K < 0) = False := eq_false h1
    by_cases h2 : 10 < K
    · have c2 : (10 < K) = True := eq_true h2
      refine run_driveS 80 ?_
      simp only [go_sem, v9, v9_0, v9_1, v9_2, q0, hl, hbk, k3, c1, c2]
      refine run_cond_t (by rfl) ?_
      refine run_driveS 80 ?_
      simp only [go_sem, v9_3]
      refine run_ret_drop Tryd.func9 res9 [0] (.tup [.agg z230, .int .i64 2]) _ rfl (by simp) ?_ ?_ ?_ hQ
      · exact hfit_cons_none hfit_nil
      · exact uniq_nodup (by decide)
      · simp only [go_sem, rr9, rens, ren, gmap, z230_rens]
        rfl
    · have c2 : (10 < K) = False := eq_false h2
      have w1 : IntKind.i64.wrap (2 * K) = 2 * K := wrap_i64 (by omega) (by omega)
      have w2 : IntKind.i64.wrap (13 + 2 * K) = 13 + 2 * K := wrap_i64 (by omega) (by omega)
      have w3 : IntKind.i64.wrap (32 * (13 + 2 * K)) = 32 * (13 + 2 * K) := wrap_i64 (by omega) (by omega)
      have c3 : ((n : Int) == 32 * (13 + 2 * K)) = false := by
        rw [beq_eq_false_iff_ne]
        rcases k4 (by omega) (by omega) with h | ⟨k, h3, h4, h5⟩
        · exact h
        · exact absurd h5 (hb k h3)
      refine run_driveS 80 ?_
      simp only [go_sem, v9, v9_0, v9_1, v9_2, q0, hl, hbk, k3, c1, c2, w1, w2, w3, c3]
      refine run_cond_t (by rfl) ?_
      refine run_driveS 80 ?_
      simp only [go_sem, v9_3]
      refine run_ret_drop Tryd.func9 res9 [0] (.tup [.agg z230, .int .i64 2]) _ rfl (by simp) ?_ ?_ ?_ hQ
      · exact hfit_cons_none hfit_nil
      · exact uniq_nodup (by decide)
      · simp only [go_sem, rr9, rens, ren, gmap, z230_rens]
        rfl
end
section
attribute [local go_sem ↓] lc_len lc_take lc_drop lc_known lc_one lc_rens lc_cells lw_known lw_agg lw_asG scs_known scs_one scs_len
attribute [local go_sem ↓] ecs_len ecs_take ecs_drop ecs_known ecs_one ecs_rens ecs_fit ecs_cells ew_known ew_agg ew_asG ecs_kind ecs_k ecs_l ers_known ers_one ers_len ers_rens ers_fit ecs_take_add ecs_drop_add lc_take_add lc_drop_add lenO_de de_known de_one dv_known dv_one lenO_dv
attribute [local go_sem] lt_nat lt_natl lt_lnat lt_ll bool_tf bool_ft
set_option maxRecDepth 100000
set_option maxHeartbeats 4000000
theorem own_x (f : Nat → Nat) (n m : Nat) (z : Bool) (hok : Ok n m z) (p i y : Nat) (hy : pk f n i = y) {x : Int} (hx : x = (i : Int)) {h : Heap} (hp : h[p]? = some (ivb f n z)) {R : V → Heap → Prop} (hR : R (lw y) h) : VCall Tryd.prog G 10 [ivl p n m z, .int .i64 x] h R := by subst hy; exact own_at f n m z hok p i hx hp hR
theorem pick_x (f : Nat → Nat) (n m : Nat) (z : Bool) (hok : Ok n m z) (p i y : Nat) (hy : pk f n i = y) {x : Int} (hx : x = (i : Int)) {h : Heap} (hp : h[p]? = some (ivb f n z)) {R : V → Heap → Prop} (hR : R (lw y) h) : VCall Tryd.prog G 11 [ivl p n m z, .int .i64 x] h R := by subst hy; exact pick_at f n m z hok p i hx hp hR
theorem its_x (f : Nat → Nat) (hf : ∀ j, f j < 115792089237316195423570985008687907853269984665640564039457584007913129639936) (n m : Nat) (z : Bool) (hok : Ok n m z) (p i y : Nat) (hy : pk f n i % ell = y) {x : Int} (hx : x = (i : Int)) {h : Heap} (hp : h[p]? = some (ivb f n z)) {R : V → Heap → Prop} (hR : R (ew y) h) : VCall Tryd.prog G 12 [ivl p n m z, .int .i64 x] h R := by subst hy; exact its_at f hf n m z hok p i hx hp hR
theorem dv_cells (b n : Nat) : cellsOf (dv b n) = [dv b n] := by unfold dv; split <;> rfl
theorem pc_setl (v : Nat → Nat) (l r x : V) : (pc v l r).take 44 ++ [x] ++ (pc v l r).drop 45 = pc v x r := rfl
theorem pc_setr (v : Nat → Nat) (l r x : V) : (pc v l r).take 45 ++ [x] ++ (pc v l r).drop 46 = pc v l x := rfl
theorem gq_one {g : Nat → List V} (t : Nat → Nat) {l r : V} (hg : ∀ j, (g j).all V.one = true) (hl : l.one = true) (hr : r.one = true) : (gq g t l r).all V.one = true := by
  simp only [gq, List.all_append, List.all_cons, hg, hl, hr, scs_one, Bool.and_self]
theorem pc_take (v : Nat → Nat) (l r : V) : (pc v l r).take 54 = pc v l r := rfl
theorem z54_len : z54.length = 54 := rfl
theorem z54_drop : z54.drop 54 = [] := rfl
theorem z230_len' : z230.length = 230 := by rfl
theorem z230_drop' : z230.drop 230 = [] := List.drop_eq_nil_of_le (by rw [z230_len']; exact Nat.le_refl _)
def qc (v : Nat → Nat) (l r : V) : List V := gq (fun j => ecs (v j % ell)) (fun j => v (8 + j) % ell) l r
theorem qc_len (v : Nat → Nat) (l r : V) : (qc v l r).length = 230 := gq_len (g := fun j => ecs (v j % ell)) _ _ _ fun _ => ecs_len _
theorem qc_ren (v : Nat → Nat) (l r : V) (f : Nat → Nat) : rens f (qc v l r) = qc v (ren f l) (ren f r) := gq_ren _ _ _ _ (fun _ f => ecs_rens _ f) f
theorem qc_setl (v : Nat → Nat) (l r x : V) : (qc v l r).take 220 ++ [x] ++ (qc v l r).drop 221 = qc v x r := gt_l (g := fun j => ecs (v j % ell)) _ l r (fun _ => ecs_len _) x
theorem qc_setr (v : Nat → Nat) (l r x : V) : (qc v l r).take 221 ++ [x] ++ (qc v l r).drop 222 = qc v l x := gt_r (g := fun j => ecs (v j % ell)) _ l r (fun _ => ecs_len _) x
theorem qc_known (v : Nat → Nat) {l r : V} (hl : l.known = true) (hr : r.known = true) : (qc v l r).all V.known = true := gq_known _ (fun _ => rfl) hl hr
theorem qc_one (v : Nat → Nat) {l r : V} (hl : l.one = true) (hr : r.one = true) : (qc v l r).all V.one = true := gq_one _ (fun _ => rfl) hl hr
theorem qc_take (v : Nat → Nat) (l r : V) : (qc v l r).take 230 = qc v l r := List.take_of_length_le (by rw [qc_len]; exact Nat.le_refl _)
theorem qc_lit (v : Nat → Nat) : ecs (v 0 % ell) ++ (ecs (v 1 % ell) ++ (ecs (v 2 % ell) ++ (ecs (v 3 % ell) ++ (ecs (v 4 % ell) ++ (ecs (v 5 % ell) ++ (ecs (v 6 % ell) ++ (ecs (v 7 % ell) ++ (lc (v 8 % ell) ++ (lc (v 9 % ell) ++ (lc (v 10 % ell) ++ (.nils :: .nils :: (lc (v 11 % ell) ++ lc (v 12 % ell))))))))))))) = qc v .nils .nils := by
  have e1 : scs 3 (fun j => v (8 + j) % ell) = lc (v 8 % ell) ++ (lc (v 9 % ell) ++ lc (v 10 % ell)) := rfl
  have e2 : scs 2 (fun j => (fun j => v (8 + j) % ell) (3 + j)) = lc (v 11 % ell) ++ lc (v 12 % ell) := rfl
  unfold qc gq
  rw [e1, e2]
  simp only [List.append_assoc, List.cons_append]
theorem pc_lit (v : Nat → Nat) : lc (v 0) ++ (lc (v 1) ++ (lc (v 2) ++ (lc (v 3) ++ (lc (v 4) ++ (lc (v 5) ++ (lc (v 6) ++ (lc (v 7) ++ (lc (v 8) ++ (lc (v 9) ++ (lc (v 10) ++ (.nils :: .nils :: (lc (v 11) ++ lc (v 12))))))))))))) = pc v .nils .nils := rfl
theorem raw_b (es ks l r v : Nat → Nat) (ne nk nl ml nr mr : Nat) (ze zk zl zr : Bool) (hl : ∀ j, l j < 115792089237316195423570985008687907853269984665640564039457584007913129639936) (hr : ∀ j, r j < 115792089237316195423570985008687907853269984665640564039457584007913129639936) (ol : Ok nl ml zl) (or' : Ok nr mr zr) (hnl : nl ≤ 1048576) (hnr : nr ≤ 1048576)
    {Q : V → Heap → Prop} (hQ : Q (.tup [.agg (pc v (dv 4 nl) (dv 6 nr)), .agg (qc v (de 5 nl) (de 7 nr))]) [ivb es ne ze, ivb ks nk zk, ivb l nl zl, ivb r nr zr, db l nl, ebg (fun j => l j % ell) nl, db r nr, ebg (fun j => r j % ell) nr]) :
    Run Tryd.prog G 4 4 Q ([.r (v4_3.drop 1), .c (.seq (.reg v4_4) (.seq (.reg v4_5) (.seq (.reg v4_6) (.seq (.reg v4_7) (.seq (.reg v4_8) (.seq (.drw v4_9) .ret))))))], ⟨[.unk, .unk, ivl 2 nl ml zl, ivl 3 nr mr zr, .unk, .unk, .unk, .unk, .ptr 4 0, .ptr 5 0, .ptr 6 0, .ptr 7 0] ++ List.replicate 64 .unk ++ [ivl 2 nl ml zl] ++ List.replicate 18 .unk, [ivb es ne ze, ivb ks nk zk, ivb l nl zl, ivb r nr zr, some ⟨.rw, z54⟩, some ⟨.rw, z230⟩, some ⟨.rw, pc v .nils .nils⟩, some ⟨.rw, qc v .nils .nils⟩]⟩) := by
  have k2 := ivl_known 2 nl ml zl
  have k3 := ivl_known 3 nr mr zr
  have y1 := pc_setl v
  have y2 := pc_setr v
  have y3 := qc_setl v
  have y4 := qc_setr v
  have x1 := pc_len v
  have x2 := qc_len v
  have p0 := pc_known v (dv 8 nl) (dv 10 nr) (dv_known ..) (dv_known ..)
  have p1 := pc_one v (dv 8 nl) (dv 10 nr) (dv_one ..) (dv_one ..)
  have p2 := qc_known v (de_known 9 nl) (de_known 11 nr)
  have p3 := qc_one v (de_one 9 nl) (de_one 11 nr)
  have p4 := pc_take v (dv 8 nl) (dv 10 nr)
  have p5 := qc_take v (de 9 nl) (de 11 nr)
  refine run_driveS 80 ?_
  simp only [go_sem, v4_3, k2]
  refine run_call' rfl ?_
  simp only [go_sem, calV, k2]
  refine lines_g l hl nl ml zl ol hnl 2 (by rfl) ?_
  refine run_driveS 80 ?_
  simp only [go_sem]
  refine run_driveS 80 ?_
  simp only [go_sem, v4_4, k3]
  refine run_call' rfl ?_
  simp only [go_sem, calV, k3]
  refine lines_g r hr nr mr zr or' hnr 3 (by rfl) ?_
  refine run_driveS 80 ?_
  simp only [go_sem]
  refine run_driveS 80 ?_
  simp only [go_sem, v4_5, x1, y1, dv_cells, de_cells]
  refine run_driveS 80 ?_
  simp only [go_sem, v4_6, x1, y2, dv_cells, de_cells]
  refine run_driveS 80 ?_
  simp only [go_sem, v4_7, x2, y3, dv_cells, de_cells]
  refine run_driveS 80 ?_
  simp only [go_sem, v4_8, x2, y4, dv_cells, de_cells]
  refine run_drw (by kernel_rfl) ?_
  refine drun_drive 40 (p := (_, _)) ?_
  simp only [go_sem, v4_9, x1, x2, z54_len, z54_drop, z230_len', z230_drop', p0, p1, p2, p3, p4, p5, restore, Option.join_some, maskH, List.mapIdx_cons, List.mapIdx_nil, List.contains_cons, List.contains_nil, Bool.or_false, Bool.or_true, Bool.false_or, Bool.true_or, Nat.reduceBEq]
  refine drun_end ?_
  refine run_driveS 80 ?_
  simp only [go_sem]
  refine run_ret_drop Tryd.func4 res4 [0, 1, 2, 3, 8, 9, 10, 11] (.tup [.agg (pc v (dv 4 nl) (dv 6 nr)), .agg (qc v (de 5 nl) (de 7 nr))]) _ rfl (by simp) ?_ ?_ ?_ hQ
  · exact hfit_cons rfl (ivb_fit ..) (hfit_cons rfl (ivb_fit ..) (hfit_cons rfl (ivb_fit ..) (hfit_cons rfl (ivb_fit ..) (hfit_cons rfl (db_fit ..) (hfit_cons rfl (ebg_fit ..) (hfit_cons rfl (db_fit ..) (hfit_cons rfl (ebg_fit ..) hfit_nil)))))))
  · exact uniq_nodup (by decide)
  · simp only [go_sem, rr4, rens, ren, gmap, p0, p2, p4, p5, x1, x2, pc_ren, qc_ren, dv_ren, de_ren]
end
section
attribute [local go_sem ↓] lc_len lc_take lc_drop lc_known lc_one lc_rens lc_cells lw_known lw_agg lw_asG scs_known scs_one scs_len
attribute [local go_sem ↓] ecs_len ecs_take ecs_drop ecs_known ecs_one ecs_rens ecs_fit ecs_cells ew_known ew_agg ew_asG ecs_kind ecs_k ecs_l ers_known ers_one ers_len ers_rens ers_fit ecs_take_add ecs_drop_add lc_take_add lc_drop_add lenO_de de_known de_one dv_known dv_one lenO_dv
attribute [local go_sem] lt_nat lt_natl lt_lnat lt_ll bool_tf bool_ft
set_option maxRecDepth 100000
set_option maxHeartbeats 4000000
theorem raw_ (es ks l r v : Nat → Nat) (ne me nk mk nl ml nr mr : Nat) (ze zk zl zr : Bool) (hes : ∀ j, es j < 115792089237316195423570985008687907853269984665640564039457584007913129639936) (hks : ∀ j, ks j < 115792089237316195423570985008687907853269984665640564039457584007913129639936) (hl : ∀ j, l j < 115792089237316195423570985008687907853269984665640564039457584007913129639936) (hr : ∀ j, r j < 115792089237316195423570985008687907853269984665640564039457584007913129639936) (oe : Ok ne me ze) (ok : Ok nk mk zk) (ol : Ok nl ml zl) (or' : Ok nr mr zr) (hv : ∀ j, j < 8 → pk es ne j = v j) (hw : ∀ j, j < 5 → pk ks nk j = v (8 + j)) (hnl : nl ≤ 1048576) (hnr : nr ≤ 1048576)
    {Q : V → Heap → Prop} (hQ : Q (.tup [.agg (pc v (dv 4 nl) (dv 6 nr)), .agg (qc v (de 5 nl) (de 7 nr))]) [ivb es ne ze, ivb ks nk zk, ivb l nl zl, ivb r nr zr, db l nl, ebg (fun j => l j % ell) nl, db r nr, ebg (fun j => r j % ell) nr]) :
    VCall Tryd.prog G 4 [ivl 0 ne me ze, ivl 1 nk mk zk, ivl 2 nl ml zl, ivl 3 nr mr zr] [ivb es ne ze, ivb ks nk zk, ivb l nl zl, ivb r nr zr] Q := by
  have k0 := ivl_known 0 ne me ze
  have k1 := ivl_known 1 nk mk zk
  have k2 := ivl_known 2 nl ml zl
  have k3 := ivl_known 3 nr mr zr
  have vlt : ∀ j, j < 5 → v (8 + j) < 115792089237316195423570985008687907853269984665640564039457584007913129639936 := fun j hj => by rw [← hw j hj]; exact pk_lt hks _ _
  have x1 := pc_len v .nils .nils
  have x2 := pc_one v .nils .nils rfl rfl
  have x3 := pc_known v .nils .nils rfl rfl
  have z1 := qc_len v .nils .nils
  have z2 := qc_one v (l := .nils) (r := .nils) rfl rfl
  have z3 := qc_known v (l := .nils) (r := .nils) rfl rfl
  refine vcall_body Tryd.func4 nm4 code4 nt4 ?_
  refine run_driveS 80 ?_
  simp only [go_sem, v4, v4_0, v4_1, k0]
  refine run_rename [0, 1, 2, 3, 4, 5] (st' := ⟨[ivl 0 ne me ze, ivl 1 nk mk zk, ivl 2 nl ml zl, ivl 3 nr mr zr, .unk, .unk, .unk, .unk, .ptr 4 0, .ptr 5 0, .unk, .unk, .unk, .unk, .unk, .unk, ivl 0 ne me ze] ++ List.replicate 78 .unk, [ivb es ne ze, ivb ks nk zk, ivb l nl zl, ivb r nr zr, some ⟨.rw, z54⟩, some ⟨.rw, z230⟩]⟩) rfl (by simp) ?_ (uniq_nodup (by decide)) ?_ ?_
  · exact hfit_cons rfl (ivb_fit ..) (hfit_cons rfl (ivb_fit ..) (hfit_cons rfl (ivb_fit ..) (hfit_cons rfl (ivb_fit ..) (hfit_cons rfl (bfit_rw (hz54.trans rfl)) (hfit_cons rfl (bfit_rw ((z230_rens _).trans rfl)) hfit_nil)))))
  · simp only [go_sem, fit, ren, gmap, ivl_ren, true_or, or_true, k0, k1, k2, k3]
  refine run_call' rfl ?_
  simp only [go_sem, calV, k0]
  refine own_x es ne me ze oe 0 0 (v 0) (hv 0 (by decide)) rfl (by rfl) ?_
  refine run_driveS 80 ?_
  simp only [go_sem, k0]
  refine run_call' rfl ?_
  simp only [go_sem, calV, k0]
  refine own_x es ne me ze oe 0 1 (v 1) (hv 1 (by decide)) rfl (by rfl) ?_
  refine run_driveS 80 ?_
  simp only [go_sem, k0]
  refine run_call' rfl ?_
  simp only [go_sem, calV, k0]
  refine own_x es ne me ze oe 0 2 (v 2) (hv 2 (by decide)) rfl (by rfl) ?_
  refine run_driveS 80 ?_
  simp only [go_sem, k0]
  refine run_call' rfl ?_
  simp only [go_sem, calV, k0]
  refine own_x es ne me ze oe 0 3 (v 3) (hv 3 (by decide)) rfl (by rfl) ?_
  refine run_driveS 80 ?_
  simp only [go_sem, k0]
  refine run_call' rfl ?_
  simp only [go_sem, calV, k0]
  refine own_x es ne me ze oe 0 4 (v 4) (hv 4 (by decide)) rfl (by rfl) ?_
  refine run_driveS 80 ?_
  simp only [go_sem, k0]
  refine run_call' rfl ?_
  simp only [go_sem, calV, k0]
  refine own_x es ne me ze oe 0 5 (v 5) (hv 5 (by decide)) rfl (by rfl) ?_
  refine run_driveS 80 ?_
  simp only [go_sem, k0]
  refine run_call' rfl ?_
  simp only [go_sem, calV, k0]
  refine own_x es ne me ze oe 0 6 (v 6) (hv 6 (by decide)) rfl (by rfl) ?_
  refine run_driveS 80 ?_
  simp only [go_sem, k0]
  refine run_call' rfl ?_
  simp only [go_sem, calV, k0]
  refine own_x es ne me ze oe 0 7 (v 7) (hv 7 (by decide)) rfl (by rfl) ?_
  refine run_driveS 80 ?_
  simp only [go_sem, k1]
  refine run_call' rfl ?_
  simp only [go_sem, calV, k1]
  refine pick_x ks nk mk zk ok 1 0 (v 8) (hw 0 (by decide)) rfl (by rfl) ?_
  refine run_driveS 80 ?_
  simp only [go_sem, k1]
  refine run_call' rfl ?_
  simp only [go_sem, calV, k1]
  refine pick_x ks nk mk zk ok 1 1 (v 9) (hw 1 (by decide)) rfl (by rfl) ?_
  refine run_driveS 80 ?_
  simp only [go_sem, k1]
  refine run_call' rfl ?_
  simp only [go_sem, calV, k1]
  refine pick_x ks nk mk zk ok 1 2 (v 10) (hw 2 (by decide)) rfl (by rfl) ?_
  refine run_driveS 80 ?_
  simp only [go_sem, k1]
  refine run_call' rfl ?_
  simp only [go_sem, calV, k1]
  refine pick_x ks nk mk zk ok 1 3 (v 11) (hw 3 (by decide)) rfl (by rfl) ?_
  refine run_driveS 80 ?_
  simp only [go_sem, k1]
  refine run_call' rfl ?_
  simp only [go_sem, calV, k1]
  refine pick_x ks nk mk zk ok 1 4 (v 12) (hw 4 (by decide)) rfl (by rfl) ?_
  refine run_driveS 80 ?_
  simp only [go_sem, v4_2, List.append_assoc, pc_lit, x1, x2, x3, k0]
  refine run_rename [0, 1, 2, 3, 4, 5, 6] (st' := ⟨[ivl 0 ne me ze, ivl 1 nk mk zk, ivl 2 nl ml zl, ivl 3 nr mr zr, .unk, .unk, .unk, .unk, .ptr 4 0, .ptr 5 0, .ptr 6 0] ++ List.replicate 32 .unk ++ [ivl 0 ne me ze] ++ List.replicate 51 .unk, [ivb es ne ze, ivb ks nk zk, ivb l nl zl, ivb r nr zr, some ⟨.rw, z54⟩, some ⟨.rw, z230⟩, some ⟨.rw, pc v .nils .nils⟩]⟩) rfl (by simp) ?_ (uniq_nodup (by decide)) ?_ ?_
  · exact hfit_cons rfl (ivb_fit ..) (hfit_cons rfl (ivb_fit ..) (hfit_cons rfl (ivb_fit ..) (hfit_cons rfl (ivb_fit ..) (hfit_cons rfl (bfit_g hz54) (hfit_cons rfl (bfit_g (z230_rens _)) (hfit_cons rfl (bfit_g (pc_ren ..)) hfit_nil))))))
  · simp only [go_sem, fit, ren, gmap, ivl_ren, true_or, or_true, k0, k1, k2, k3]
  refine run_call' rfl ?_
  simp only [go_sem, calV, k0]
  refine its_x es hes ne me ze oe 0 0 (v 0 % ell) (by rw [hv 0 (by decide)]) rfl (by rfl) ?_
  refine run_driveS 80 ?_
  simp only [go_sem, k0]
  refine run_call' rfl ?_
  simp only [go_sem, calV, k0]
  refine its_x es hes ne me ze oe 0 1 (v 1 % ell) (by rw [hv 1 (by decide)]) rfl (by rfl) ?_
  refine run_driveS 80 ?_
  simp only [go_sem, k0]
  refine run_call' rfl ?_
  simp only [go_sem, calV, k0]
  refine its_x es hes ne me ze oe 0 2 (v 2 % ell) (by rw [hv 2 (by decide)]) rfl (by rfl) ?_
  refine run_driveS 80 ?_
  simp only [go_sem, k0]
  refine run_call' rfl ?_
  simp only [go_sem, calV, k0]
  refine its_x es hes ne me ze oe 0 3 (v 3 % ell) (by rw [hv 3 (by decide)]) rfl (by rfl) ?_
  refine run_driveS 80 ?_
  simp only [go_sem, k0]
  refine run_call' rfl ?_
  simp only [go_sem, calV, k0]
  refine its_x es hes ne me ze oe 0 4 (v 4 % ell) (by rw [hv 4 (by decide)]) rfl (by rfl) ?_
  refine run_driveS 80 ?_
  simp only [go_sem, k0]
  refine run_call' rfl ?_
  simp only [go_sem, calV, k0]
  refine its_x es hes ne me ze oe 0 5 (v 5 % ell) (by rw [hv 5 (by decide)]) rfl (by rfl) ?_
  refine run_driveS 80 ?_
  simp only [go_sem, k0]
  refine run_call' rfl ?_
  simp only [go_sem, calV, k0]
  refine its_x es hes ne me ze oe 0 6 (v 6 % ell) (by rw [hv 6 (by decide)]) rfl (by rfl) ?_
  refine run_driveS 80 ?_
  simp only [go_sem, k0]
  refine run_call' rfl ?_
  simp only [go_sem, calV, k0]
  refine its_x es hes ne me ze oe 0 7 (v 7 % ell) (by rw [hv 7 (by decide)]) rfl (by rfl) ?_
  refine run_driveS 80 ?_
  simp only [go_sem, k1]
  refine run_call' rfl ?_
  simp only [go_sem, calV, k1]
  refine pick_x ks nk mk zk ok 1 0 (v 8) (hw 0 (by decide)) rfl (by rfl) ?_
  refine run_driveS 80 ?_
  simp only [go_sem]
  refine run_call' rfl ?_
  simp only [go_sem, calV]
  refine num_ _ (vlt 0 (by decide)) ?_
  refine run_driveS 80 ?_
  simp only [go_sem, k1]
  refine run_call' rfl ?_
  simp only [go_sem, calV, k1]
  refine pick_x ks nk mk zk ok 1 1 (v 9) (hw 1 (by decide)) rfl (by rfl) ?_
  refine run_driveS 80 ?_
  simp only [go_sem]
  refine run_call' rfl ?_
  simp only [go_sem, calV]
  refine num_ _ (vlt 1 (by decide)) ?_
  refine run_driveS 80 ?_
  simp only [go_sem, k1]
  refine run_call' rfl ?_
  simp only [go_sem, calV, k1]
  refine pick_x ks nk mk zk ok 1 2 (v 10) (hw 2 (by decide)) rfl (by rfl) ?_
  refine run_driveS 80 ?_
  simp only [go_sem]
  refine run_call' rfl ?_
  simp only [go_sem, calV]
  refine num_ _ (vlt 2 (by decide)) ?_
  refine run_driveS 80 ?_
  simp only [go_sem, k1]
  refine run_call' rfl ?_
  simp only [go_sem, calV, k1]
  refine pick_x ks nk mk zk ok 1 3 (v 11) (hw 3 (by decide)) rfl (by rfl) ?_
  refine run_driveS 80 ?_
  simp only [go_sem]
  refine run_call' rfl ?_
  simp only [go_sem, calV]
  refine num_ _ (vlt 3 (by decide)) ?_
  refine run_driveS 80 ?_
  simp only [go_sem, k1]
  refine run_call' rfl ?_
  simp only [go_sem, calV, k1]
  refine pick_x ks nk mk zk ok 1 4 (v 12) (hw 4 (by decide)) rfl (by rfl) ?_
  refine run_driveS 80 ?_
  simp only [go_sem]
  refine run_call' rfl ?_
  simp only [go_sem, calV]
  refine num_ _ (vlt 4 (by decide)) ?_
  refine run_driveS 80 ?_
  simp only [go_sem, v4_3, List.append_assoc, qc_lit, z1, z2, z3, k2]
  refine run_rename [0, 1, 2, 3, 4, 5, 6, 7] (st' := ⟨[.unk, .unk, ivl 2 nl ml zl, ivl 3 nr mr zr, .unk, .unk, .unk, .unk, .ptr 4 0, .ptr 5 0, .ptr 6 0, .ptr 7 0] ++ List.replicate 64 .unk ++ [ivl 2 nl ml zl] ++ List.replicate 18 .unk, [ivb es ne ze, ivb ks nk zk, ivb l nl zl, ivb r nr zr, some ⟨.rw, z54⟩, some ⟨.rw, z230⟩, some ⟨.rw, pc v .nils .nils⟩, some ⟨.rw, qc v .nils .nils⟩]⟩) rfl (by simp) ?_ (uniq_nodup (by decide)) ?_ ?_
  · exact hfit_cons rfl (ivb_fit ..) (hfit_cons rfl (ivb_fit ..) (hfit_cons rfl (ivb_fit ..) (hfit_cons rfl (ivb_fit ..) (hfit_cons rfl (bfit_g hz54) (hfit_cons rfl (bfit_g (z230_rens _)) (hfit_cons rfl (bfit_g (pc_ren ..)) (hfit_cons rfl (bfit_g (qc_ren ..)) hfit_nil)))))))
  · simp only [go_sem, fit, ren, gmap, ivl_ren, true_or, or_true, k0, k1, k2, k3]
  exact raw_b es ks l r v ne nk nl ml nr mr ze zk zl zr hl hr ol or' hnl hnr hQ
end
end Go.Vs.Tryd
namespace Go.Vs.Tryd
open Go.Proofs
variable {G : Nat → List V}
set_option linter.unusedSimpArgs false
attribute [local go_sem] lenO_nils lenO_sl sliceAtV Int.sub_zero List.length_append List.all_append ge_iff_le gt_iff_lt Int.natCast_nonneg Int.toNat_natCast Nat.mul_one b_and_ll b_shr_ll b_mul_ll b_add_ll b_or_ll b_shl_ll pick_ll pick_lc pick_bb driveS stopV Option.isSome_some Option.isSome_none Kind.m Kind.w Kind.g look_ro look_rw look_grow drive stepV exo expo evs fillV isNil nilKind eqV eqL optA optM sliceAtV ev kn ldc stc splice appV srcV lenV setd wantV exitV rvs rv one List.length_cons List.length_nil List.cons_append List.nil_append List.append_nil List.replicate List.getD_cons_zero List.getD_cons_succ List.set_cons_zero List.set_cons_succ List.getElem?_cons_zero List.getElem?_cons_succ List.getElem?_nil List.take_succ_cons List.take_zero List.take_nil List.drop_succ_cons List.drop_zero List.drop_nil List.all_cons List.all_nil List.any_cons List.any_nil Bool.and_true Bool.true_and Bool.and_self Option.map_some Option.map_none Option.bind_some Option.some.injEq Nat.add_zero Nat.zero_add Int.toNat_zero Int.toNat_one Int.zero_add Int.add_zero if_true if_false ite_true ite_false and_true true_and and_self ne_eq not_false_eq_true not_true_eq_false decide_true decide_false Bool.false_eq_true Bool.not_true Bool.not_false beq_self_eq_true BEq.rfl Bool.not_eq_true Nat.le_refl Int.le_refl Nat.zero_le List.foldl List.map_cons List.map_nil Prod.mk.injEq Int.cast_ofNat_Int Int.zero_le_ofNat b_add_cc b_add_cl b_add_lc b_mul_cc b_mul_cl b_mul_lc b_sub_cc b_sub_cl b_sub_lc b_and_cc b_and_cl b_and_lc b_or_cc b_or_cl b_or_lc b_xor_cc b_xor_cl b_xor_lc b_andNot_cc b_andNot_cl b_andNot_lc b_shr_cc b_shr_cl b_shr_lc b_shl_cc b_shl_cl b_shl_lc b_lss b_leq b_gtr b_geq b_add_i b_sub_i b_mul_i beq_cc beq_cl beq_lc beq_ll b_quo_i b_rem_i neg_u64 wrap_i64 driveD stepD idsAt idOf maskH_nil restore_nil restore_mask List.filterMap_nil List.filterMap_cons VOp.looks VOp.makes exA cells_agg cells_int cells_bool cells_str cells_nilp cells_ptr cells_glob cells_nils cells_sl cells_nilf cells_fn cells_nili cells_ifc known_agg known_tup known_int known_bool known_str known_nilp known_ptr known_glob known_nils known_sl known_nilf known_fn known_nili known_ifc known_unk one_agg one_tup one_int one_bool one_str one_nilp one_ptr one_glob one_nils one_sl one_nilf one_fn one_nili one_ifc asK_int asN_int asB_bool asS_str asG_agg asT_tup true_or or_true false_or or_false
set_option maxRecDepth 100000
theorem hor_congr {f g : Nat → Nat} : ∀ (n s : Nat), (∀ j, j < s + n → f j = g j) → hor f s n = hor g s n
  | 0, s, _ => rfl
  | n + 1, s, h => by
    unfold hor
    rw [h s (by omega), hor_congr n (s + 1) fun j hj => h j (by omega)]
theorem dec_congr {f g : Nat → Nat} (h : ∀ j, j < 32 → f j = g j) : dec f = dec g := by
  unfold dec
  rw [hor_congr 8 0 (fun j hj => h j (by omega)), hor_congr 8 8 (fun j hj => h j (by omega)), hor_congr 8 16 (fun j hj => h j (by omega)), hor_congr 8 24 (fun j hj => h j (by omega))]
theorem encF_lt (A : Nat → Nat) (j : Nat) : encF A j < 256 := Nat.mod_lt _ (by decide)
theorem ell_WW : ell < 115792089237316195423570985008687907853269984665640564039457584007913129639936 := by decide
theorem dec_encF (A : Nat → Nat) (j : Nat) : dec (fun t => encF A (32 * j + t)) = A j % ell := by
  rw [dec_congr (g := enc (A j % ell)), dec_enc (Nat.lt_trans (Nat.mod_lt _ ell_pos) ell_WW)]
  intro t ht
  unfold encF
  rw [show (32 * j + t) / 32 = j by omega, show (32 * j + t) % 32 = t by omega]
theorem dval_encF (A : Nat → Nat) (j : Nat) : dval (fun t => encF A (32 * j + t)) = A j % ell := by
  unfold dval
  rw [dec_encF, if_pos (Nat.mod_lt _ ell_pos)]
theorem derr_encF (A : Nat → Nat) (j : Nat) : derr (fun t => encF A (32 * j + t)) = 0 := by
  unfold derr
  rw [dec_encF, if_pos (Nat.mod_lt _ ell_pos)]
theorem er_encF (A : Nat → Nat) : ∀ n, er (encF A) n = 0
  | 0 => rfl
  | n + 1 => by rw [er, er_encF A n, if_pos rfl, derr_encF]
theorem er_zero {F : Nat → Nat} : ∀ {n : Nat}, er F n = 0 → ∀ j, j < n → dec (fun t => F (32 * j + t)) < ell
  | 0, _, j, hj => absurd hj (Nat.not_lt_zero j)
  | n + 1, h, j, hj => by
    rw [er] at h
    by_cases h0 : er F n = 0
    · rw [if_pos h0] at h
      by_cases e : j = n
      · subst e
        unfold derr at h
        by_cases h1 : dec (fun t => F (32 * j + t)) < ell
        · exact h1
        · rw [if_neg h1] at h; cases h
      · exact er_zero h0 j (by omega)
    · rw [if_neg h0] at h; exact absurd h h0
theorem dval_lt (f : Nat → Nat) : dval f < ell := by
  unfold dval
  split
  · assumption
  · exact ell_pos
theorem dvl_lt (F : Nat → Nat) (i j : Nat) : dvl F i j < ell := by
  unfold dvl
  split
  · exact dval_lt _
  · exact ell_pos
theorem dvl_of (F : Nat → Nat) {i j : Nat} (h : j < i) : dvl F i j = dval (fun t => F (32 * j + t)) := if_pos h
theorem fval_d (F : Nat → Nat) (k : Nat) {j : Nat} (hj : j < 13 + 2 * k) : fval (dP F k (13 + 2 * k)) (dL F (13 + 2 * k)) (dR F (13 + 2 * k)) k j = dval (fun t => F (32 * j + t)) := by
  unfold fval
  by_cases h1 : j < 11
  · rw [if_pos h1, dP, if_pos h1, dvl_of F hj]
  · rw [if_neg h1]
    by_cases h2 : j < 11 + 2 * k
    · rw [if_pos h2]
      by_cases h3 : (j - 11) % 2 = 0
      · rw [if_pos h3, dL, show 11 + 2 * ((j - 11) / 2) = j by omega, dvl_of F hj]
      · rw [if_neg h3, dR, show 12 + 2 * ((j - 11) / 2) = j by omega, dvl_of F hj]
    · rw [if_neg h2, dP, if_neg (by omega), show j - 2 * k + 2 * k = j by omega, dvl_of F hj]
theorem again_eq {F : Nat → Nat} (hF : ∀ j, F j < 256) {k : Nat} (h : er F (13 + 2 * k) = 0) {i : Nat} (hi : i < 32 * (13 + 2 * k)) : encF (fval (dP F k (13 + 2 * k)) (dL F (13 + 2 * k)) (dR F (13 + 2 * k)) k) i = F i := by
  unfold encF
  have hj : i / 32 < 13 + 2 * k := by omega
  have hd := er_zero h _ hj
  rw [fval_d F k hj, dval, if_pos hd, Nat.mod_eq_of_lt hd, enc_dec (f := fun t => F (32 * (i / 32) + t)) (fun t => hF _) (Nat.mod_lt _ (by decide))]
  congr 1
  omega
theorem again_brow {F : Nat → Nat} (hF : ∀ j, F j < 256) {k : Nat} (h : er F (13 + 2 * k) = 0) : brow (32 * (13 + 2 * k)) (encF (fval (dP F k (13 + 2 * k)) (dL F (13 + 2 * k)) (dR F (13 + 2 * k)) k)) = brow (32 * (13 + 2 * k)) F := brow_congr fun _ hi => again_eq hF h hi
theorem same_e (F : Nat → Nat) (k : Nat) {j : Nat} (hj : j < 8) : dP F k (13 + 2 * k) j % ell = dval (fun t => F (32 * j + t)) := by
  rw [dP, if_pos (by omega), dvl_of F (by omega), Nat.mod_eq_of_lt (dval_lt _)]
theorem same_t (F : Nat → Nat) (k : Nat) {j : Nat} (hj : j < 5) : dP F k (13 + 2 * k) (8 + j) = if j < 3 then dval (fun t => F (32 * (8 + j) + t)) else if j = 3 then dval (fun t => F (32 * (11 + 2 * k) + t)) else dval (fun t => F (32 * (12 + 2 * k) + t)) := by
  rw [dP]
  by_cases h : j < 3
  · rw [if_pos (by omega), if_pos h, dvl_of F (by omega)]
  · rw [if_neg (by omega), if_neg h]
    by_cases h3 : j = 3
    · rw [if_pos h3, show 8 + j + 2 * k = 11 + 2 * k by omega, dvl_of F (by omega)]
    · rw [if_neg h3, show 8 + j + 2 * k = 12 + 2 * k by omega, dvl_of F (by omega)]
theorem same_l (F : Nat → Nat) (k : Nat) {j : Nat} (hj : j < k) : dL F (13 + 2 * k) j % ell = dval (fun t => F (32 * (11 + 2 * j) + t)) := by
  rw [dL, dvl_of F (by omega), Nat.mod_eq_of_lt (dval_lt _)]
theorem same_r (F : Nat → Nat) (k : Nat) {j : Nat} (hj : j < k) : dR F (13 + 2 * k) j % ell = dval (fun t => F (32 * (12 + 2 * j) + t)) := by
  rw [dR, dvl_of F (by omega), Nat.mod_eq_of_lt (dval_lt _)]
theorem fv_e (v lv rv : Nat → Nat) (k : Nat) {j : Nat} (hj : j < 11) : fval v lv rv k j = v j := if_pos hj
theorem fv_l (v lv rv : Nat → Nat) (k : Nat) {j : Nat} (hj : j < k) : fval v lv rv k (11 + 2 * j) = lv j := by
  unfold fval
  rw [if_neg (by omega), if_pos (by omega), if_pos (by omega), show (11 + 2 * j - 11) / 2 = j by omega]
theorem fv_r (v lv rv : Nat → Nat) (k : Nat) {j : Nat} (hj : j < k) : fval v lv rv k (12 + 2 * j) = rv j := by
  unfold fval
  rw [if_neg (by omega), if_pos (by omega), if_neg (by omega), show (12 + 2 * j - 11) / 2 = j by omega]
theorem fv_3 (v lv rv : Nat → Nat) (k : Nat) : fval v lv rv k (11 + 2 * k) = v 11 := by
  unfold fval
  rw [if_neg (by omega), if_neg (by omega), Nat.add_sub_cancel]
theorem fv_4 (v lv rv : Nat → Nat) (k : Nat) : fval v lv rv k (12 + 2 * k) = v 12 := by
  unfold fval
  rw [if_neg (by omega), if_neg (by omega), Nat.add_sub_cancel]
theorem back_e (v lv rv : Nat → Nat) (k : Nat) {j : Nat} (hj : j < 8) : dP (encF (fval v lv rv k)) k (13 + 2 * k) j % ell = v j % ell := by
  rw [same_e _ k hj, dval_encF, fv_e _ _ _ _ (by omega)]
theorem back_t (v lv rv : Nat → Nat) (k : Nat) {j : Nat} (hj : j < 5) : dP (encF (fval v lv rv k)) k (13 + 2 * k) (8 + j) = v (8 + j) % ell := by
  rw [same_t _ k hj]
  by_cases h : j < 3
  · rw [if_pos h, dval_encF, fv_e _ _ _ _ (by omega)]
  · rw [if_neg h]
    by_cases h3 : j = 3
    · rw [if_pos h3, dval_encF, fv_3, h3]
    · rw [if_neg h3, dval_encF, fv_4, show 8 + j = 12 by omega]
theorem back_l (v lv rv : Nat → Nat) (k : Nat) {j : Nat} (hj : j < k) : dL (encF (fval v lv rv k)) (13 + 2 * k) j % ell = lv j % ell := by
  rw [same_l _ k hj, dval_encF, fv_l _ _ _ _ hj]
theorem back_r (v lv rv : Nat → Nat) (k : Nat) {j : Nat} (hj : j < k) : dR (encF (fval v lv rv k)) (13 + 2 * k) j % ell = rv j % ell := by
  rw [same_r _ k hj, dval_encF, fv_r _ _ _ _ hj]
end Go.Vs.Tryd
namespace Go.Vs.Tryd
open Go.Proofs
variable {G : Nat → List V}
set_option linter.unusedSimpArgs false
attribute [local go_sem] lenO_nils lenO_sl sliceAtV Int.sub_zero List.length_append List.all_append ge_iff_le gt_iff_lt Int.natCast_nonneg Int.toNat_natCast Nat.mul_one b_and_ll b_shr_ll b_mul_ll b_add_ll b_or_ll b_shl_ll pick_ll pick_lc pick_bb driveS stopV Option.isSome_some Option.isSome_none Kind.m Kind.w Kind.g look_ro look_rw look_grow drive stepV exo expo evs fillV isNil nilKind eqV eqL optA optM sliceAtV ev kn ldc stc splice appV srcV lenV setd wantV exitV rvs rv one List.length_cons List.length_nil List.cons_append List.nil_append List.append_nil List.replicate List.getD_cons_zero List.getD_cons_succ List.set_cons_zero List.set_cons_succ List.getElem?_cons_zero List.getElem?_cons_succ List.getElem?_nil List.take_succ_cons List.take_zero List.take_nil List.drop_succ_cons List.drop_zero List.drop_nil List.all_cons List.all_nil List.any_cons List.any_nil Bool.and_true Bool.true_and Bool.and_self Option.map_some Option.map_none Option.bind_some Option.some.injEq Nat.add_zero Nat.zero_add Int.toNat_zero Int.toNat_one Int.zero_add Int.add_zero if_true if_false ite_true ite_false and_true true_and and_self ne_eq not_false_eq_true not_true_eq_false decide_true decide_false Bool.false_eq_true Bool.not_true Bool.not_false beq_self_eq_true BEq.rfl Bool.not_eq_true Nat.le_refl Int.le_refl Nat.zero_le List.foldl List.map_cons List.map_nil Prod.mk.injEq Int.cast_ofNat_Int Int.zero_le_ofNat b_add_cc b_add_cl b_add_lc b_mul_cc b_mul_cl b_mul_lc b_sub_cc b_sub_cl b_sub_lc b_and_cc b_and_cl b_and_lc b_or_cc b_or_cl b_or_lc b_xor_cc b_xor_cl b_xor_lc b_andNot_cc b_andNot_cl b_andNot_lc b_shr_cc b_shr_cl b_shr_lc b_shl_cc b_shl_cl b_shl_lc b_lss b_leq b_gtr b_geq b_add_i b_sub_i b_mul_i beq_cc beq_cl beq_lc beq_ll b_quo_i b_rem_i neg_u64 wrap_i64 driveD stepD idsAt idOf maskH_nil restore_nil restore_mask List.filterMap_nil List.filterMap_cons VOp.looks VOp.makes exA cells_agg cells_int cells_bool cells_str cells_nilp cells_ptr cells_glob cells_nils cells_sl cells_nilf cells_fn cells_nili cells_ifc known_agg known_tup known_int known_bool known_str known_nilp known_ptr known_glob known_nils known_sl known_nilf known_fn known_nili known_ifc known_unk one_agg one_tup one_int one_bool one_str one_nilp one_ptr one_glob one_nils one_sl one_nilf one_fn one_nili one_ifc asK_int asN_int asB_bool asS_str asG_agg asT_tup true_or or_true false_or or_false
attribute [local go_sem ↓] lc_len lc_take lc_drop lc_known lc_one lc_rens lc_cells lw_known lw_agg lw_asG scs_known scs_one scs_len
attribute [local go_sem ↓] brow_len brow_known brow_one brow_rens bw_known bw_agg bw_cells bw_asG
attribute [local go_sem] lt_nat lt_natl lt_lnat lt_ll bool_tf bool_ft
set_option maxRecDepth 100000
set_option maxHeartbeats 4000000
def bvb (F : Nat → Nat) (n : Nat) (z : Bool) : Option Blk := if z = true then none else some ⟨.ro, brow n F⟩
theorem bvb_fit (F : Nat → Nat) (n : Nat) (z : Bool) (g : Nat → Nat) : bfit g (bvb F n z) (bvb F n z) := by
  cases z
  · exact bfit_g (brow_rens ..)
  · trivial
theorem lenO_ivl {i n m : Nat} {z : Bool} (h : Ok n m z) : lenO (ivl i n m z) = some n := by
  cases z
  · rfl
  · obtain rfl := h.2 rfl; rfl
def RC : TI := .c (.seq (.reg v3_10) (.seq (.reg v3_11) (.seq (.reg v3_12) (.seq (.seq (.drw v3_13) (.cond (.t 113) (.seq (.reg v3_14) .ret) .skip)) (.seq (.seq (.reg v3_15) (.cond (.t 115) (.seq (.reg v3_16) .ret) .skip)) (.seq (.reg v3_17) (.seq (.reg v3_18) .ret)))))))
def RD : List TI := [.c (.drw v3_13), .c (.cond (.t 113) (.seq (.reg v3_14) .ret) .skip), .c (.seq (.seq (.reg v3_15) (.cond (.t 115) (.seq (.reg v3_16) .ret) .skip)) (.seq (.reg v3_17) (.seq (.reg v3_18) .ret)))]
def tmC3 (n m M : Nat) (z : Bool) (e : Int) : List V := [.unk, .unk, .unk, .unk, ivl 4 n m z] ++ List.replicate 14 .unk ++ [.sl 5 0 (n + 2) (.exact M), .ptr 6 0, .int .i64 e, .ptr 7 0, .int .i64 e] ++ List.replicate 106 .unk
theorem cvs_e : bstr [] = ByteArray.empty := rfl
theorem ba_refl (b : ByteArray) : (b == b) = true := by
  obtain ⟨d⟩ := b
  show (d == d) = true
  exact beq_self_eq_true d
end Go.Vs.Tryd
namespace Go.Vs.Tryd
open Go.Proofs
variable {G : Nat → List V}
set_option linter.unusedSimpArgs false
attribute [local go_sem] lenO_nils lenO_sl sliceAtV Int.sub_zero List.length_append List.all_append ge_iff_le gt_iff_lt Int.natCast_nonneg Int.toNat_natCast Nat.mul_one b_and_ll b_shr_ll b_mul_ll b_add_ll b_or_ll b_shl_ll pick_ll pick_lc pick_bb driveS stopV Option.isSome_some Option.isSome_none Kind.m Kind.w Kind.g look_ro look_rw look_grow drive stepV exo expo evs fillV isNil nilKind eqV eqL optA optM sliceAtV ev kn ldc stc splice appV srcV lenV setd wantV exitV rvs rv one List.length_cons List.length_nil List.cons_append List.nil_append List.append_nil List.replicate List.getD_cons_zero List.getD_cons_succ List.set_cons_zero List.set_cons_succ List.getElem?_cons_zero List.getElem?_cons_succ List.getElem?_nil List.take_succ_cons List.take_zero List.take_nil List.drop_succ_cons List.drop_zero List.drop_nil List.all_cons List.all_nil List.any_cons List.any_nil Bool.and_true Bool.true_and Bool.and_self Option.map_some Option.map_none Option.bind_some Option.some.injEq Nat.add_zero Nat.zero_add Int.toNat_zero Int.toNat_one Int.zero_add Int.add_zero if_true if_false ite_true ite_false and_true true_and and_self ne_eq not_false_eq_true not_true_eq_false decide_true decide_false Bool.false_eq_true Bool.not_true Bool.not_false beq_self_eq_true BEq.rfl Bool.not_eq_true Nat.le_refl Int.le_refl Nat.zero_le List.foldl List.map_cons List.map_nil Prod.mk.injEq Int.cast_ofNat_Int Int.zero_le_ofNat b_add_cc b_add_cl b_add_lc b_mul_cc b_mul_cl b_mul_lc b_sub_cc b_sub_cl b_sub_lc b_and_cc b_and_cl b_and_lc b_or_cc b_or_cl b_or_lc b_xor_cc b_xor_cl b_xor_lc b_andNot_cc b_andNot_cl b_andNot_lc b_shr_cc b_shr_cl b_shr_lc b_shl_cc b_shl_cl b_shl_lc b_lss b_leq b_gtr b_geq b_add_i b_sub_i b_mul_i beq_cc beq_cl beq_lc beq_ll b_quo_i b_rem_i neg_u64 wrap_i64 driveD stepD idsAt idOf maskH_nil restore_nil restore_mask List.filterMap_nil List.filterMap_cons VOp.looks VOp.makes exA cells_agg cells_int cells_bool cells_str cells_nilp cells_ptr cells_glob cells_nils cells_sl cells_nilf cells_fn cells_nili cells_ifc known_agg known_tup known_int known_bool known_str known_nilp known_ptr known_glob known_nils known_sl known_nilf known_fn known_nili known_ifc known_unk one_agg one_tup one_int one_bool one_str one_nilp one_ptr one_glob one_nils one_sl one_nilf one_fn one_nili one_ifc asK_int asN_int asB_bool asS_str asG_agg asT_tup true_or or_true false_or or_false
attribute [local go_sem_proc] Nat.reduceAdd Nat.reduceSub Nat.reduceLeDiff Nat.reduceMul Nat.reduceLT Nat.reduceEqDiff Int.reduceLT Int.reduceLE Int.reduceAdd Int.reduceSub Int.reduceMul Int.reduceToNat reduceIte reduceCtorEq Nat.reduceBEq
section
attribute [local go_sem ↓] lc_len lc_take lc_drop lc_known lc_one lc_rens lc_cells lw_known lw_agg lw_asG scs_known scs_one scs_len
attribute [local go_sem ↓] brow_len brow_known brow_one brow_rens bw_known bw_agg bw_cells bw_asG
attribute [local go_sem] lt_nat lt_natl lt_lnat lt_ll bool_tf bool_ft
set_option maxRecDepth 100000
set_option maxHeartbeats 4000000
theorem D_eq (F : Nat → Nat) (j : Nat) : D F j = dval fun t => F (32 * j + t) := by unfold D; rfl
theorem c_ok (hG : G 3 = tbl) {F : Nat → Nat} (hF : ∀ j, F j < 256) {n m M k : Nat} (hk : k ≤ 10) (hnk : n = 32 * (13 + 2 * k)) (hm : n ≤ m) (hM : n + 2 ≤ M) (h201 : F n = 201) (hr : er F (13 + 2 * k) = 0) (E K L R : Option Blk) (fE : ∀ f, bfit f E E) (fK : ∀ f, bfit f K K) (fL : ∀ f, bfit f L L) (fR : ∀ f, bfit f R R) {Q : V → Heap → Prop} (hQ : Q (.bool true) [E, K, L, R, bvb F n false]) :
    Run Tryd.prog G 3 5 Q (RD, ⟨tmC3 n m M false 0, [E, K, L, R, bvb F n false, some ⟨.grow, brow (n + 2) F⟩, some ⟨.rw, pc (dP F k (13 + 2 * k)) (.sl 8 0 k (.exact k)) (.sl 9 0 k (.exact k))⟩, some ⟨.rw, pf5 F k (de 10 k) (de 11 k)⟩, some ⟨.rw, scs k (dL F (13 + 2 * k))⟩, some ⟨.rw, scs k (dR F (13 + 2 * k))⟩, ebg (fun j => D F (11 + 2 * j)) k, ebg (fun j => D F (12 + 2 * j)) k]⟩) := by
  have p1 := pc_len (dP F k (13 + 2 * k)) (.sl 8 0 k (.exact k)) (.sl 9 0 k (.exact k))
  have p2 := pc_known (dP F k (13 + 2 * k)) (.sl 8 0 k (.exact k)) (.sl 9 0 k (.exact k)) rfl rfl
  have p3 := pc_take (dP F k (13 + 2 * k)) (.sl 8 0 k (.exact k)) (.sl 9 0 k (.exact k))
  have q1 := pf5_len F k (de 10 k) (de 11 k)
  have q2 := pf5_known F k (de_known 10 k) (de_known 11 k)
  have q3 := pf5_take F k (de 10 k) (de 11 k)
  have b1 := brow_takes (n + 2) F (k := n) (by omega)
  have b2 := brow_get' (n + 2) F (i := n) (by omega)
  have b3 := u8s_brow n F
  have b4 : ((n : Int) < ((n + 2 : Nat) : Int)) = True := eq_true (by omega)
  have b5 : ((n : Int) ≤ (M : Int)) = True := eq_true (by omega)
  have b6 : (n ≤ n + 2) = True := eq_true (by omega)
  have b7 : ((F n : Int) == nl 201) = true := by rw [h201]; rfl
  have b8 : (((n + 2 : Nat) : Int) ≤ (M : Int)) = True := eq_true (by omega)
  have dl : ∀ a, dP F k (13 + 2 * k) a < 115792089237316195423570985008687907853269984665640564039457584007913129639936 := fun a => Nat.lt_trans (dvl_lt ..) ell_WW
  have lll : ∀ a, dL F (13 + 2 * k) a < 115792089237316195423570985008687907853269984665640564039457584007913129639936 := fun a => Nat.lt_trans (dvl_lt ..) ell_WW
  have llr : ∀ a, dR F (13 + 2 * k) a < 115792089237316195423570985008687907853269984665640564039457584007913129639936 := fun a => Nat.lt_trans (dvl_lt ..) ell_WW
  have ag := again_brow hF hr
  unfold RD tmC3
  rw [show ivl 4 n m false = .sl 4 0 n (.exact m) from rfl, show bvb F n false = some ⟨.ro, brow n F⟩ from rfl] at *
  refine run_drw (by kernel_rfl) ?_
  refine drun_drive 40 (p := (_, _)) ?_
  simp only [go_sem, v3_13, p1, p2, p3, q1, q2, q3, b1, b2, b3, b4, b5, b6, b7, b8, brow_take, ba_refl]
  refine drun_call' ?_
  simp only [go_sem, calV]
  refine same_proof (dP F k (13 + 2 * k)) (dL F (13 + 2 * k)) (dR F (13 + 2 * k)) (fun a => ecs (D F a)) (pt5 F k) (.sl 8 0 k (.exact k)) (.sl 9 0 k (.exact k)) (de 10 k) (de 11 k) k (fun j => D F (11 + 2 * j)) (fun j => D F (12 + 2 * j)) dl lll llr (by omega) (hec F) (fun _ => rfl) (fun j hj _ _ hR => line_is_t _ _ (dl j) (by rw [same_e F k hj, D_eq]) hR) (fun j hj => by rw [same_t F k hj, pt5, D_eq, D_eq, D_eq]) (fun j hj => by rw [same_l F k hj, D_eq]) (fun j hj => by rw [same_r F k hj, D_eq]) (.inr ⟨8, .exact k, .rw, rfl, rfl, rfl⟩) (.inr ⟨9, .exact k, .rw, rfl, rfl, rfl⟩) ?_ ?_ ?_
  · by_cases h : k = 0
    · exact .inl ⟨h, by rw [h]; rfl⟩
    · exact .inr ⟨10, .grow 26, .grow, de_pos (by omega), rfl, by rw [ebg_pos (by omega)]; rfl⟩
  · by_cases h : k = 0
    · exact .inl ⟨h, by rw [h]; rfl⟩
    · exact .inr ⟨11, .grow 26, .grow, de_pos (by omega), rfl, by rw [ebg_pos (by omega), ebg_pos (by omega)]; rfl⟩
  refine drun_drive 40 (p := (_, _)) ?_
  simp only [go_sem, p1, p2, p3, q1, q2, q3, b1, b2, b3, b4, b5, b6, b7, b8, brow_take, ba_refl]
  refine drun_end ?_
  refine run_cond_f (by rfl) ?_
  refine run_driveS 80 ?_
  simp only [go_sem, v3_15]
  refine run_cond_f (by rfl) ?_
  refine run_driveS 80 ?_
  simp only [go_sem, v3_17, p1, p2, p3]
  refine run_call' rfl ?_
  simp only [go_sem, calV]
  refine vcall_at (Q := fun w h => w = .tup [.sl 3 0 (32 * (13 + 2 * k)) (.grow 1), .int .i64 0] ∧ h = [none, none, none, some ⟨.grow, brow (32 * (13 + 2 * k)) (encF (fval (dP F k (13 + 2 * k)) (dL F (13 + 2 * k)) (dR F (13 + 2 * k)) k))⟩]) (encode_ok (dP F k (13 + 2 * k)) (dL F (13 + 2 * k)) (dR F (13 + 2 * k)) k (.sl 1 0 k (.exact k)) (.sl 2 0 k (.exact k)) (some ⟨.ro, scs k (dL F (13 + 2 * k))⟩) (some ⟨.ro, scs k (dR F (13 + 2 * k))⟩) hG dl lll llr rfl rfl rfl rfl (fun f h => by rw [ren, h]) (fun f h => by rw [ren, h]) (fun _ => bfit_g (scs_rens ..)) (fun _ => bfit_g (scs_rens ..)) rfl rfl (fun _ => ⟨_, rfl⟩) (fun _ => ⟨_, rfl⟩) (fun _ => rfl) (fun _ => rfl) hk ⟨rfl, rfl⟩) [0, 8, 9] ?_ ?_ ?_ ?_ ?_
  · simp
  · exact hfit_cons_none (hfit_cons rfl (bfit_ro (scs_rens ..)) (hfit_cons rfl (bfit_ro (scs_rens ..)) hfit_nil))
  · exact uniq_nodup (by decide)
  · simp only [rens, ren, gmap, pc_ren]
  rintro _ _ ⟨rfl, rfl⟩
  rw [ag, ← hnk]
  simp only [puts, wrB, Bool.false_eq_true, if_false, List.map_cons, List.map_nil, Option.map_none, Option.map_some, renB, rens, ren, gmap, brow_rens, List.cons_append, List.nil_append, List.length_cons, List.length_nil, Nat.reduceAdd]
  refine run_driveS 80 ?_
  simp only [go_sem]
  refine run_driveS 80 ?_
  simp only [go_sem, v3_18, brow_take, b3, ba_refl]
  refine run_ret_drop Tryd.func3 res3 [0, 1, 2, 3, 4] (.bool true) _ rfl (by simp) ?_ (uniq_nodup (by decide)) ?_ hQ
  · exact hfit_cons rfl (fE _) (hfit_cons rfl (fK _) (hfit_cons rfl (fL _) (hfit_cons rfl (fR _) (hfit_cons rfl (bfit_g (brow_rens ..)) hfit_nil))))
  · simp only [go_sem, rr3, ren]
end
section
attribute [local go_sem ↓] lc_len lc_take lc_drop lc_known lc_one lc_rens lc_cells lw_known lw_agg lw_asG scs_known scs_one scs_len
attribute [local go_sem ↓] brow_len brow_known brow_one brow_rens bw_known bw_agg bw_cells bw_asG
attribute [local go_sem] lt_nat lt_natl lt_lnat lt_ll bool_tf bool_ft
set_option maxRecDepth 100000
set_option maxHeartbeats 4000000
section
variable {F : Nat → Nat} {n m M : Nat} {z : Bool} (hok : Ok n m z) (hn : n ≤ 1048576) (hM : n + 2 ≤ M) (h201 : F n = 201) (E K L R : Option Blk) (fE : ∀ f, bfit f E E) (fK : ∀ f, bfit f K K) (fL : ∀ f, bfit f L L) (fR : ∀ f, bfit f R R)
include hok hn hM h201 fE fK fL fR
theorem c_err {e : Int} (he : e ≠ 0) {Q : V → Heap → Prop} (hQ : Q (.bool true) [E, K, L, R, bvb F n z]) :
    Run Tryd.prog G 3 5 Q (RD, ⟨tmC3 n m M z e, [E, K, L, R, bvb F n z, some ⟨.grow, brow (n + 2) F⟩, some ⟨.rw, pc (fun _ => 0) .nils .nils⟩, some ⟨.rw, gq (fun _ => e0) (fun _ => 0) .nils .nils⟩]⟩) := by
  have l4 := lenO_ivl (i := 4) hok
  have k4 := ivl_known 4 n m z
  have hb : (e == 0) = false := by simpa using he
  have p1 := pc_len (fun _ => 0) .nils .nils
  have p2 := pc_known (fun _ => 0) .nils .nils rfl rfl
  have p3 := pc_take (fun _ => 0) .nils .nils
  have hg : ∀ j : Nat, ((fun _ => e0) j).length = 26 := fun _ => rfl
  have q1 := gq_len (g := fun _ => e0) (fun _ => 0) .nils .nils hg
  have q2 := gq_known (g := fun _ => e0) (fun _ => 0) (l := .nils) (r := .nils) (fun _ => rfl) rfl rfl
  have q3 : (gq (fun _ => e0) (fun _ => 0) .nils .nils).take 230 = gq (fun _ => e0) (fun _ => 0) .nils .nils := List.take_of_length_le (by rw [q1]; exact Nat.le_refl _)
  have b1 := brow_takes (n + 2) F (k := n) (by omega)
  have b2 := brow_get' (n + 2) F (i := n) (by omega)
  have b3 := u8s_brow n F
  have b4 : ((n : Int) < ((n + 2 : Nat) : Int)) = True := eq_true (by omega)
  have b5 : ((n : Int) ≤ (M : Int)) = True := eq_true (by omega)
  have b6 : (n ≤ n + 2) = True := eq_true (by omega)
  have b7 : ((F n : Int) == nl 201) = true := by rw [h201]; rfl
  have b8 : (((n + 2 : Nat) : Int) ≤ (M : Int)) = True := eq_true (by omega)
  have w0 : ∀ j : Nat, (fun _ => 0) j < 115792089237316195423570985008687907853269984665640564039457584007913129639936 := fun _ => (by decide : 0 < 115792089237316195423570985008687907853269984665640564039457584007913129639936)
  have hs : ∀ {h : Heap} {R' : V → Heap → Prop}, R' (.bool true) (h ++ [some ⟨.rw, pc (fun _ => 0) .nils .nils⟩, some ⟨.rw, gq (fun _ => e0) (fun _ => 0) .nils .nils⟩]) → VCall Tryd.prog G 8 [.agg (pc (fun _ => 0) .nils .nils), .agg (gq (fun _ => e0) (fun _ => 0) .nils .nils)] h R' := fun hR => same_proof (fun _ => 0) (fun _ => 0) (fun _ => 0) (fun _ => e0) (fun _ => 0) .nils .nils .nils .nils 0 (fun _ => 0) (fun _ => 0) w0 w0 w0 (by decide) hg (fun _ => rfl) (fun j _ h R hR => line_is_0 hR) (fun j _ => rfl) (fun j h => absurd h (Nat.not_lt_zero j)) (fun j h => absurd h (Nat.not_lt_zero j)) (.inl ⟨rfl, rfl⟩) (.inl ⟨rfl, rfl⟩) (.inl ⟨rfl, rfl⟩) (.inl ⟨rfl, rfl⟩) hR
  unfold RD tmC3
  generalize hX : gq (fun _ => e0) (fun _ => 0) .nils .nils = X at *
  generalize hY : pc (fun _ => 0) .nils .nils = Y at *
  cases z with
  | true =>
    obtain rfl := hok.2 rfl
    have b9 : brow 0 F = [] := rfl
    have b10 : u8s [] = some [] := rfl
    have d1 : ((0 : Int) < ((0 + 2 : Nat) : Int)) = True := eq_true (by decide)
    have d2 : ((0 : Int) ≤ (M : Int)) = True := eq_true (by omega)
    have d4 : List.take 1 (brow 2 F) = [.int .u8 (F 0 : Int)] := b2
    rw [show ivl 4 0 m true = .nils from rfl, show bvb F 0 true = none from rfl] at *
    refine run_drw (by kernel_rfl) ?_
    refine drun_drive 40 (p := (_, _)) ?_
    simp only [go_sem, v3_13, p1, p2, p3, q1, q2, q3, b1, b2, b3, b4, b5, b6, b7, b8, b9, b10, d1, d2, d4, cvs_e, ba_refl]
    refine drun_call' ?_
    simp only [go_sem, calV]
    refine hs ?_
    refine drun_drive 40 (p := (_, _)) ?_
    simp only [go_sem, p1, p2, p3, q1, q2, q3, b1, b2, b3, b4, b5, b6, b7, b8, b9, b10, d1, d2, d4, cvs_e, ba_refl]
    refine drun_end ?_
    refine run_cond_f (by rfl) ?_
    refine run_driveS 80 ?_
    simp only [go_sem, v3_15, hb]
    refine run_cond_t (by rfl) ?_
    refine run_driveS 80 ?_
    simp only [go_sem, v3_16]
    refine run_ret_drop Tryd.func3 res3 [0, 1, 2, 3, 4] (.bool true) _ rfl (by simp) ?_ (uniq_nodup (by decide)) ?_ hQ
    · exact hfit_cons rfl (fE _) (hfit_cons rfl (fK _) (hfit_cons rfl (fL _) (hfit_cons rfl (fR _) (hfit_cons_none hfit_nil))))
    · simp only [go_sem, rr3, ren]
  | false =>
    rw [show ivl 4 n m false = .sl 4 0 n (.exact m) from rfl, show bvb F n false = some ⟨.ro, brow n F⟩ from rfl] at *
    refine run_drw (by kernel_rfl) ?_
    refine drun_drive 40 (p := (_, _)) ?_
    simp only [go_sem, v3_13, p1, p2, p3, q1, q2, q3, b1, b2, b3, b4, b5, b6, b7, b8, brow_take, ba_refl]
    refine drun_call' ?_
    simp only [go_sem, calV]
    refine hs ?_
    refine drun_drive 40 (p := (_, _)) ?_
    simp only [go_sem, p1, p2, p3, q1, q2, q3, b1, b2, b3, b4, b5, b6, b7, b8, brow_take, ba_refl]
    refine drun_end ?_
    refine run_cond_f (by rfl) ?_
    refine run_driveS 80 ?_
    simp only [go_sem, v3_15, hb]
    refine run_cond_t (by rfl) ?_
    refine run_driveS 80 ?_
    simp only [go_sem, v3_16]
    refine run_ret_drop Tryd.func3 res3 [0, 1, 2, 3, 4] (.bool true) _ rfl (by simp) ?_ (uniq_nodup (by decide)) ?_ hQ
    · exact hfit_cons rfl (fE _) (hfit_cons rfl (fK _) (hfit_cons rfl (fL _) (hfit_cons rfl (fR _) (hfit_cons rfl (bfit_g (brow_rens ..)) hfit_nil))))
    · simp only [go_sem, rr3, ren]
end
end
section
attribute [local go_sem ↓] lc_len lc_take lc_drop lc_known lc_one lc_rens lc_cells lw_known lw_agg lw_asG scs_known scs_one scs_len
attribute [local go_sem ↓] brow_len brow_known brow_one brow_rens bw_known bw_agg bw_cells bw_asG
attribute [local go_sem] lt_nat lt_natl lt_lnat lt_ll bool_tf bool_ft
set_option maxRecDepth 100000
set_option maxHeartbeats 4000000
def RC2 : List TI := [.r (v3_11.drop 4), .c (.seq (.reg v3_12) (.seq (.seq (.drw v3_13) (.cond (.t 113) (.seq (.reg v3_14) .ret) .skip)) (.seq (.seq (.reg v3_15) (.cond (.t 115) (.seq (.reg v3_16) .ret) .skip)) (.seq (.reg v3_17) (.seq (.reg v3_18) .ret)))))]
def tmC2 (n m : Nat) (z : Bool) : List V := [.unk, .unk, .unk, .unk, ivl 4 n m z] ++ List.replicate 14 .unk ++ [.sl 5 0 (n + 2) (.grow 1)] ++ List.replicate 58 .unk ++ [.sl 5 0 n (.grow 1)] ++ List.replicate 51 .unk
def tmC2' (n m M M2 : Nat) (z : Bool) : List V := [.unk, .unk, .unk, .unk, ivl 4 n m z] ++ List.replicate 14 .unk ++ [.sl 5 0 (n + 2) (.exact M)] ++ List.replicate 58 .unk ++ [.sl 5 0 n (.exact M2)] ++ List.replicate 51 .unk
theorem z54_known : z54.all V.known = true := by rfl
theorem z54_one : z54.all V.one = true := by rfl
theorem z230_known : z230.all V.known = true := gq_known (g := fun _ => e0) (fun _ => 0) (l := .nils) (r := .nils) (fun _ => rfl) rfl rfl
theorem z230_one : z230.all V.one = true := gq_one (g := fun _ => e0) (fun _ => 0) (l := .nils) (r := .nils) (fun _ => rfl) rfl rfl
section
variable (hG : G 3 = tbl) {F : Nat → Nat} (hF : ∀ j, F j < 256) {n m M M2 : Nat} {z : Bool} (hok : Ok n m z) (hn : n ≤ 1048576) (hM : n + 2 ≤ M) (hM2 : n + 2 ≤ M2) (h201 : F n = 201) (E K L R : Option Blk) (fE : ∀ f, bfit f E E) (fK : ∀ f, bfit f K K) (fL : ∀ f, bfit f L L) (fR : ∀ f, bfit f R R)
include hok hn hM h201 fE fK fL fR
theorem c_bad (hb : ∀ k : Nat, k ≤ 10 → n ≠ 32 * (13 + 2 * k)) {Q : V → Heap → Prop} (hQ : Q (.bool true) [E, K, L, R, bvb F n z]) :
    Run Tryd.prog G 3 5 Q (RC2, ⟨tmC2' n m M M2 z, [E, K, L, R, bvb F n z, some ⟨.grow, brow (n + 2) F⟩]⟩) := by
  have k4 := ivl_known 4 n m z
  unfold RC2 tmC2'
  show Run _ _ _ _ _ (.r (.call (some 79) none (.fn 7) [.t 78] :: v3_11.drop 5) :: _, _)
  refine run_call' rfl ?_
  simp only [go_sem, calV]
  refine vcall_at (Q := fun w h => w = .tup [.agg z54, .int .i64 2] ∧ h = [none]) (decode_bad n (.sl 0 0 n (.exact M2)) rfl rfl (by omega) hb ⟨rfl, rfl⟩) [5] ?_ ?_ ?_ ?_ ?_
  · simp
  · exact hfit_cons_none hfit_nil
  · exact uniq_nodup (by decide)
  · simp only [rens, ren, gmap]
  rintro _ _ ⟨rfl, rfl⟩
  simp only [puts, wrB, Bool.false_eq_true, if_false, List.map_nil, ren, rens, hz54, List.append_nil]
  refine run_driveS 80 ?_
  simp only [go_sem, v3_11, v3_12, List.drop, z54_known, z54_one, z54_len, k4]
  refine run_call' rfl ?_
  simp only [go_sem, calV, k4]
  refine vcall_at (Q := fun w h => w = .tup [.agg z230, .int .i64 2] ∧ h = [none]) (r_decode_bad n (ivl 0 n m z) (lenO_ivl hok) (ivl_known ..) (by omega) hb ⟨rfl, rfl⟩) [4] ?_ ?_ ?_ ?_ ?_
  · simp
  · exact hfit_cons_none hfit_nil
  · exact uniq_nodup (by decide)
  · simp only [rens, ren, gmap, ivl_ren]
  rintro _ _ ⟨rfl, rfl⟩
  simp only [puts, wrB, Bool.false_eq_true, if_false, List.map_nil, ren, rens, z230_rens, List.append_nil]
  refine run_driveS 80 ?_
  simp only [go_sem, z230_known, z230_one, z230_len]
  refine run_rename [0, 1, 2, 3, 4, 5, 6, 7] (st' := ⟨tmC3 n m M z 2, [E, K, L, R, bvb F n z, some ⟨.grow, brow (n + 2) F⟩, some ⟨.rw, pc (fun _ => 0) .nils .nils⟩, some ⟨.rw, gq (fun _ => e0) (fun _ => 0) .nils .nils⟩]⟩) rfl (by simp) ?_ (uniq_nodup (by decide)) ?_ ?_
  · exact hfit_cons rfl (fE _) (hfit_cons rfl (fK _) (hfit_cons rfl (fL _) (hfit_cons rfl (fR _) (hfit_cons rfl (bvb_fit ..) (hfit_cons rfl (bfit_g (brow_rens ..)) (hfit_cons rfl (bfit_rw hz54) (hfit_cons rfl (bfit_rw (z230_rens _)) hfit_nil)))))))
  · simp only [go_sem, tmC3, fit, ren, gmap, ivl_ren, true_or, or_true]
  exact c_err hok hn hM h201 E K L R fE fK fL fR (by decide) hQ
include hG hF hM2
theorem c_good {k : Nat} (hk : k ≤ 10) (hnk : n = 32 * (13 + 2 * k)) {Q : V → Heap → Prop} (hQ : Q (.bool true) [E, K, L, R, bvb F n z]) :
    Run Tryd.prog G 3 5 Q (RC2, ⟨tmC2' n m M M2 z, [E, K, L, R, bvb F n z, some ⟨.grow, brow (n + 2) F⟩]⟩) := by
  obtain rfl : z = false := by
    cases z
    · rfl
    · have := hok.2 rfl; omega
  have hm := hok.1
  unfold RC2 tmC2'
  rw [show ivl 4 n m false = .sl 4 0 n (.exact m) from rfl]
  show Run _ _ _ _ _ (.r (.call (some 79) none (.fn 7) [.t 78] :: v3_11.drop 5) :: _, _)
  refine run_call' rfl ?_
  simp only [go_sem, calV]
  refine vcall_at (Q := fun w h => w = (if er F (13 + 2 * k) = 0 then .tup [.agg (pc (dP F k (13 + 2 * k)) (.sl 1 0 k (.exact k)) (.sl 2 0 k (.exact k))), .int .i64 0] else .tup [.agg z54, .int .i64 (er F (13 + 2 * k))]) ∧ h = [none, some ⟨.rw, scs k (dL F (13 + 2 * k))⟩, some ⟨.rw, scs k (dR F (13 + 2 * k))⟩]) (decode_ok (n + 2) F k M2 hG hF hk (by omega) (by omega) ⟨rfl, rfl⟩) [5] ?_ ?_ ?_ ?_ ?_
  · simp
  · exact hfit_cons rfl (bfit_ro (brow_rens ..)) hfit_nil
  · exact uniq_nodup (by decide)
  · simp only [rens, ren, gmap, hnk]
  rintro _ _ ⟨rfl, rfl⟩
  by_cases hr : er F (13 + 2 * k) = 0
  · rw [if_pos hr]
    simp only [puts, wrB, Bool.false_eq_true, if_false, List.map_cons, List.map_nil, Option.map_some, renB, scs_rens, ren, rens, pc_ren, gmap, List.append_nil, List.cons_append, List.nil_append, List.length_cons, List.length_nil, Nat.reduceAdd]
    have p1 := pc_len (dP F k (13 + 2 * k)) (.sl 6 0 k (.exact k)) (.sl 7 0 k (.exact k))
    have p2 := pc_known (dP F k (13 + 2 * k)) (.sl 6 0 k (.exact k)) (.sl 7 0 k (.exact k)) rfl rfl
    have p3 := pc_one (dP F k (13 + 2 * k)) (.sl 6 0 k (.exact k)) (.sl 7 0 k (.exact k)) rfl rfl
    have q1 := pf5_len F k (de 9 k) (de 10 k)
    have q2 := pf5_known F k (de_known 9 k) (de_known 10 k)
    have q3 := pf5_one F k (de_one 9 k) (de_one 10 k)
    refine run_driveS 80 ?_
    simp only [go_sem, v3_11, v3_12, List.drop, p1, p2, p3]
    refine run_call' rfl ?_
    simp only [go_sem, calV]
    refine vcall_at (Q := fun w h => w = .tup [.agg (pf5 F k (de 1 k) (de 2 k)), .int .i64 0] ∧ h = [none, ebg (fun j => D F (11 + 2 * j)) k, ebg (fun j => D F (12 + 2 * j)) k]) (r_decode_ok n m k F hF hk (by omega) (by omega) (by rw [if_pos hr]; exact ⟨rfl, rfl⟩)) [4] ?_ ?_ ?_ ?_ ?_
    · simp
    · exact hfit_cons rfl (bfit_g (brow_rens ..)) hfit_nil
    · exact uniq_nodup (by decide)
    · simp only [rens, ren, gmap, hnk]
    rintro _ _ ⟨rfl, rfl⟩
    simp only [puts, wrB, Bool.false_eq_true, if_false, List.map_cons, List.map_nil, ebg_map, ren, rens, pf5_ren, de_ren, gmap, List.append_nil, List.cons_append, List.nil_append, List.length_cons, List.length_nil, Nat.reduceAdd]
    refine run_driveS 80 ?_
    simp only [go_sem, q1, q2, q3]
    refine run_rename [0, 1, 2, 3, 4, 5, 8, 11, 6, 7, 9, 10] (st' := ⟨tmC3 n m M false 0, [E, K, L, R, bvb F n false, some ⟨.grow, brow (n + 2) F⟩, some ⟨.rw, pc (dP F k (13 + 2 * k)) (.sl 8 0 k (.exact k)) (.sl 9 0 k (.exact k))⟩, some ⟨.rw, pf5 F k (de 10 k) (de 11 k)⟩, some ⟨.rw, scs k (dL F (13 + 2 * k))⟩, some ⟨.rw, scs k (dR F (13 + 2 * k))⟩, ebg (fun j => D F (11 + 2 * j)) k, ebg (fun j => D F (12 + 2 * j)) k]⟩) rfl (by simp) ?_ (uniq_nodup (by decide)) ?_ ?_
    · exact hfit_cons rfl (fE _) (hfit_cons rfl (fK _) (hfit_cons rfl (fL _) (hfit_cons rfl (fR _) (hfit_cons rfl (bfit_g (brow_rens ..)) (hfit_cons rfl (bfit_g (brow_rens ..)) (hfit_cons rfl (bfit_rw (pc_ren ..)) (hfit_cons rfl (bfit_rw (by rw [pf5_ren, de_ren, de_ren]; rfl)) (hfit_cons rfl (bfit_g (scs_rens ..)) (hfit_cons rfl (bfit_g (scs_rens ..)) (hfit_cons rfl (ebg_fit ..) (hfit_cons rfl (ebg_fit ..) hfit_nil)))))))))))
    · simp only [go_sem, tmC3, fit, ren, gmap, ivl_ren, true_or, or_true, show ∀ i, ivl i n m false = .sl i 0 n (.exact m) from fun _ => rfl]
    exact c_ok hG hF hk hnk hm hM h201 hr E K L R fE fK fL fR hQ
  · rw [if_neg hr]
    simp only [puts, wrB, Bool.false_eq_true, if_false, List.map_cons, List.map_nil, Option.map_some, renB, scs_rens, ren, rens, hz54, gmap, List.append_nil, List.cons_append, List.nil_append, List.length_cons, List.length_nil, Nat.reduceAdd]
    refine run_driveS 80 ?_
    simp only [go_sem, v3_11, v3_12, List.drop, z54_known, z54_one, z54_len]
    refine run_call' rfl ?_
    simp only [go_sem, calV]
    refine vcall_at (Q := fun w h => w = .tup [.agg z230, .int .i64 (er F (13 + 2 * k))] ∧ h = [none, ebg (fun j => D F (11 + 2 * j)) k, ebg (fun j => D F (12 + 2 * j)) k]) (r_decode_ok n m k F hF hk (by omega) (by omega) (by rw [if_neg hr]; exact ⟨rfl, rfl⟩)) [4] ?_ ?_ ?_ ?_ ?_
    · simp
    · exact hfit_cons rfl (bfit_g (brow_rens ..)) hfit_nil
    · exact uniq_nodup (by decide)
    · simp only [rens, ren, gmap, hnk]
    rintro _ _ ⟨rfl, rfl⟩
    simp only [puts, wrB, Bool.false_eq_true, if_false, List.map_cons, List.map_nil, ebg_map, ren, rens, z230_rens, gmap, List.append_nil, List.cons_append, List.nil_append, List.length_cons, List.length_nil, Nat.reduceAdd]
    refine run_driveS 80 ?_
    simp only [go_sem, z230_known, z230_one, z230_len]
    refine run_rename [0, 1, 2, 3, 4, 5, 8, 11] (st' := ⟨tmC3 n m M false (er F (13 + 2 * k)), [E, K, L, R, bvb F n false, some ⟨.grow, brow (n + 2) F⟩, some ⟨.rw, pc (fun _ => 0) .nils .nils⟩, some ⟨.rw, gq (fun _ => e0) (fun _ => 0) .nils .nils⟩]⟩) rfl (by simp) ?_ (uniq_nodup (by decide)) ?_ ?_
    · exact hfit_cons rfl (fE _) (hfit_cons rfl (fK _) (hfit_cons rfl (fL _) (hfit_cons rfl (fR _) (hfit_cons rfl (bfit_g (brow_rens ..)) (hfit_cons rfl (bfit_g (brow_rens ..)) (hfit_cons rfl (bfit_rw hz54) (hfit_cons rfl (bfit_rw (z230_rens _)) hfit_nil)))))))
    · simp only [go_sem, tmC3, fit, ren, gmap, ivl_ren, true_or, or_true, show ∀ i, ivl i n m false = .sl i 0 n (.exact m) from fun _ => rfl]
    exact c_err hok hn hM h201 E K L R fE fK fL fR hr hQ
end
end
section
attribute [local go_sem ↓] lc_len lc_take lc_drop lc_known lc_one lc_rens lc_cells lw_known lw_agg lw_asG scs_known scs_one scs_len
attribute [local go_sem ↓] brow_len brow_known brow_one brow_rens bw_known bw_agg bw_cells bw_asG
attribute [local go_sem] lt_nat lt_natl lt_lnat lt_ll bool_tf bool_ft
set_option maxRecDepth 100000
set_option maxHeartbeats 4000000
theorem law_c2 (hG : G 3 = tbl) {F : Nat → Nat} (hF : ∀ j, F j < 256) {n m : Nat} {z : Bool} (hok : Ok n m z) (hn : n ≤ 1048576) (h201 : F n = 201) (E K L R : Option Blk) (fE : ∀ f, bfit f E E) (fK : ∀ f, bfit f K K) (fL : ∀ f, bfit f L L) (fR : ∀ f, bfit f R R) {Q : V → Heap → Prop} (hQ : Q (.bool true) [E, K, L, R, bvb F n z]) :
    Run Tryd.prog G 3 5 Q (RC2, ⟨tmC2 n m z, [E, K, L, R, bvb F n z, some ⟨.grow, brow (n + 2) F⟩]⟩) := by
  refine run_know (t := 19) (i := 5) rfl rfl fun M hM => ?_
  refine run_know (t := 78) (i := 5) rfl rfl fun M2 hM2 => ?_
  rw [brow_len] at hM hM2
  rw [Nat.sub_zero, Nat.div_one, Nat.sub_zero, Nat.div_one]
  by_cases hk : ∃ k : Nat, k ≤ 10 ∧ n = 32 * (13 + 2 * k)
  · obtain ⟨k, hk, hnk⟩ := hk
    exact c_good hG hF hok hn hM hM2 h201 E K L R fE fK fL fR hk hnk hQ
  · exact c_bad hok hn hM h201 E K L R fE fK fL fR (fun k h1 h2 => hk ⟨k, h1, h2⟩) hQ
theorem two (F : Nat → Nat) (n : Nat) (h201 : F n = 201) (h202 : F (n + 1) = 202) : brow n F ++ [.int .u8 (nl 201), .int .u8 (nl 202)] = brow (n + 2) F := by
  rw [← brow_snoc (n + 1) F, ← brow_snoc n F, h201, h202, List.append_assoc]
  rfl
def tmC1 (n m : Nat) (z : Bool) : List V := [.unk, .unk, .unk, .unk, ivl 4 n m z] ++ List.replicate 125 .unk
def RC' : List TI := [.c .skip, RC]
theorem law_c (hG : G 3 = tbl) {F : Nat → Nat} (hF : ∀ j, F j < 256) {n m : Nat} {z : Bool} (hok : Ok n m z) (hn : n ≤ 1048576) (h201 : F n = 201) (h202 : F (n + 1) = 202) (E K L R : Option Blk) (fE : ∀ f, bfit f E E) (fK : ∀ f, bfit f K K) (fL : ∀ f, bfit f L L) (fR : ∀ f, bfit f R R) {Q : V → Heap → Prop} (hQ : Q (.bool true) [E, K, L, R, bvb F n z]) :
    Run Tryd.prog G 3 5 Q (RC', ⟨tmC1 n m z, [E, K, L, R, bvb F n z]⟩) := by
  have h := law_c2 hG hF hok hn h201 E K L R fE fK fL fR hQ
  have t := two F n h201 h202
  have b1 : (n ≤ 140737488355328) = True := eq_true (by omega)
  have b2 : (n ≤ 9223372036854775807) = True := eq_true (by omega)
  have b3 : (n + 2 ≤ 140737488355328) = True := eq_true (by omega)
  have b4 : (n + 2 ≤ 9223372036854775807) = True := eq_true (by omega)
  have b5 : ((n : Int) ≤ ((n + 2 : Nat) : Int)) = True := eq_true (by omega)
  have fb := bvb_fit F n z
  have go : ∀ (X : Option Blk) (tm : List V) (H : Heap) (b : Nat), H.take 5 = [E, K, L, R, bvb F n z] → 5 ≤ b → H[b]? = some (some ⟨.grow, brow (n + 2) F⟩) → (∀ f : Nat → Nat, f 4 = 4 → f 5 = b → fit f (tmC2 n m z) tm) → Run Tryd.prog G 3 5 Q (RC2, ⟨tm, H⟩) := fun X tm H b h1 h2 h3 h4 => by
    have hh : ∀ i x, ([E, K, L, R, bvb F n z] : Heap)[i]? = some x → H[i]? = some x := fun i x hx => by
      rw [← h1, List.getElem?_take] at hx
      split at hx
      · exact hx
      · cases hx
    refine run_rename [0, 1, 2, 3, 4, b] rfl (by simpa using h2) ?_ ?_ (h4 _ rfl rfl) h
    · exact hfit_cons (hh 0 _ rfl) (fE _) (hfit_cons (hh 1 _ rfl) (fK _) (hfit_cons (hh 2 _ rfl) (fL _) (hfit_cons (hh 3 _ rfl) (fR _) (hfit_cons (hh 4 _ rfl) (fb _) (hfit_cons h3 (bfit_g (brow_rens ..)) hfit_nil)))))
    · refine uniq_nodup ?_
      simp only [List.nodup_cons, List.mem_cons, List.not_mem_nil, or_false, not_or, not_false_eq_true, and_true, List.nodup_nil]
      omega
  unfold RC' RC tmC1
  unfold tmC2 at go
  by_cases h0 : n = 0
  · subst h0
    have t' : ([.int .u8 (nl 201), .int .u8 (nl 202)] : List V) = brow 2 F := t
    cases z with
    | true =>
      rw [show ivl 4 0 m true = .nils from rfl, show bvb F 0 true = none from rfl] at *
      refine run_driveS 80 ?_
      simp only [go_sem, v3_10, v3_11, t']
      refine go none _ _ 7 rfl (by decide) rfl fun f h4 h5 => ?_
      simp only [go_sem, fit, ren, h4, h5, true_or, or_true]
    | false =>
      have t2 : brow 0 F = [] := rfl
      rw [show ivl 4 0 m false = .sl 4 0 0 (.exact m) from rfl, show bvb F 0 false = some ⟨.ro, brow 0 F⟩ from rfl] at *
      refine run_driveS 80 ?_
      simp only [go_sem, v3_10, v3_11, t', t2]
      refine go none _ _ 7 rfl (by decide) rfl fun f h4 h5 => ?_
      simp only [go_sem, fit, ren, h4, h5, true_or, or_true]
  · obtain rfl : z = false := by
      cases z
      · rfl
      · exact absurd (hok.2 rfl) h0
    have f1 : (n ≤ 0) = False := eq_false (by omega)
    have f2 : (n = 0) = False := eq_false h0
    have f3 : (brow n F = []) = False := eq_false fun e => by
      have := congrArg List.length e
      rw [brow_len] at this
      exact h0 this
    rw [show ivl 4 n m false = .sl 4 0 n (.exact m) from rfl, show bvb F n false = some ⟨.ro, brow n F⟩ from rfl] at *
    refine run_driveS 80 ?_
    simp only [go_sem, v3_10, v3_11, t, b1, b2, b3, b4, b5, f1, f2, f3, brow_take]
    refine go none _ _ 8 rfl (by decide) rfl fun f h4 h5 => ?_
    simp only [go_sem, fit, ren, h4, h5, true_or, or_true]
end
section
attribute [local go_sem ↓] lc_len lc_take lc_drop lc_known lc_one lc_rens lc_cells lw_known lw_agg lw_asG scs_known scs_one scs_len
attribute [local go_sem ↓] brow_len brow_known brow_one brow_rens bw_known bw_agg bw_cells bw_asG
attribute [local go_sem] lt_nat lt_natl lt_lnat lt_ll bool_tf bool_ft
set_option maxRecDepth 100000
set_option maxHeartbeats 4000000
def RE : List TI := [.r (v3_2.drop 1), .c (.seq (.reg v3_3) (.seq (.seq (.reg v3_4) (.cond (.t 53) (.seq (.reg v3_5) .ret) .skip)) (.seq (.seq (.reg v3_6) (.cond (.t 55) (.seq (.reg v3_7) (.seq (.reg v3_8) (.cond (.t 68) (.seq (.reg v3_9) .ret) .skip))) .skip)) (.seq (.reg v3_10) (.seq (.reg v3_11) (.seq (.reg v3_12) (.seq (.seq (.drw v3_13) (.cond (.t 113) (.seq (.reg v3_14) .ret) .skip)) (.seq (.seq (.reg v3_15) (.cond (.t 115) (.seq (.reg v3_16) .ret) .skip)) (.seq (.reg v3_17) (.seq (.reg v3_18) .ret)))))))))) ]
def tmE1 (v : Nat → Nat) (n m nl nr : Nat) (z : Bool) : List V := [.unk, .unk, .unk, .unk, ivl 4 n m z] ++ List.replicate 6 .unk ++ [.ptr 9 0, .ptr 10 0] ++ List.replicate 22 .unk ++ [.agg (pc v (dv 5 nl) (dv 7 nr))] ++ List.replicate 94 .unk
def hpE1 (E K L R B : Option Blk) (v l r : Nat → Nat) (nl nr : Nat) : Heap := [E, K, L, R, B, db l nl, ebg (fun j => l j % ell) nl, db r nr, ebg (fun j => r j % ell) nr, some ⟨.rw, pc v (dv 5 nl) (dv 7 nr)⟩, some ⟨.rw, qc v (de 6 nl) (de 8 nr)⟩]
theorem rob_fit (f : Nat → Nat) (n : Nat) (g : Nat → Nat) : bfit g (rob f n) (db f n) := by
  unfold rob db
  split
  · trivial
  · exact bfit_ro (scs_rens ..)
theorem rob_fit' (f : Nat → Nat) (n : Nat) (g : Nat → Nat) : bfit g (rob f n) (rob f n) := by
  unfold rob
  split
  · trivial
  · exact bfit_g (scs_rens ..)
theorem eb_fit' (f : Nat → Nat) (n : Nat) (g : Nat → Nat) : bfit g (eb f n) (ebg f n) := by
  unfold eb ebg
  split
  · trivial
  · exact bfit_ro (ers_rens ..)
section
variable {F : Nat → Nat} {n m : Nat} {z : Bool} (hok : Ok n m z) (E K L R : Option Blk) (fE : ∀ f, bfit f E E) (fK : ∀ f, bfit f K K) (fL : ∀ f, bfit f L L) (fR : ∀ f, bfit f R R) (v l r : Nat → Nat) (nl nr : Nat)
include fE fK fL fR
theorem e_bad (hb : nl ≠ nr ∨ 10 < nl) {Q : V → Heap → Prop} (hQ : Run Tryd.prog G 3 5 Q (RC', ⟨tmC1 n m z, [E, K, L, R, bvb F n z]⟩)) :
    Run Tryd.prog G 3 5 Q (RE, ⟨tmE1 v n m nl nr z, hpE1 E K L R (bvb F n z) v l r nl nr⟩) := by
  have k4 := ivl_known 4 n m z
  have q1 := qc_len v (de 6 nl) (de 8 nr)
  have q2 := qc_known v (de_known 6 nl) (de_known 8 nr)
  have q3 := qc_take v (de 6 nl) (de 8 nr)
  unfold RE tmE1 hpE1
  show Run _ _ _ _ _ (.r (.call (some 36) none (.fn 5) [.t 35] :: v3_2.drop 2) :: _, _)
  refine run_call' rfl ?_
  simp only [go_sem, calV]
  refine vcall_at (Q := fun w h => w = .tup [.nils, .int .i64 2] ∧ h = [none, none, none]) (encode_bad v (dv 1 nl) (dv 2 nr) (lenO_dv ..) (lenO_dv ..) (dv_known ..) (dv_known ..) hb ⟨rfl, rfl⟩) [0, 5, 7] ?_ ?_ ?_ ?_ ?_
  · simp
  · exact hfit_cons_none (hfit_cons_none (hfit_cons_none hfit_nil))
  · exact uniq_nodup (by decide)
  · simp only [rens, ren, gmap, pc_ren, dv_ren]
  rintro _ _ ⟨rfl, rfl⟩
  simp only [puts, wrB, Bool.false_eq_true, if_false, List.map_nil, ren, rens, List.append_nil]
  refine run_driveS 80 ?_
  simp only [go_sem, v3_2, v3_3, List.drop, q1, q2, q3]
  refine run_call' rfl ?_
  simp only [go_sem, calV]
  refine vcall_at (Q := fun w h => w = .tup [.nils, .int .i64 2] ∧ h = [none, none]) (r_encode_bad (fun j => ecs (v j % ell)) (fun j => v (8 + j) % ell) (de 0 nl) (de 1 nr) (fun _ => ecs_len _) (fun _ => rfl) (lenO_de ..) (lenO_de ..) (de_known ..) (de_known ..) hb ⟨rfl, rfl⟩) [6, 8] ?_ ?_ ?_ ?_ ?_
  · simp
  · exact hfit_cons_none (hfit_cons_none hfit_nil)
  · exact uniq_nodup (by decide)
  · show _ = rens _ [.agg (qc v (de 0 nl) (de 1 nr))]
    simp only [rens, ren, gmap, qc_ren, de_ren]
  rintro _ _ ⟨rfl, rfl⟩
  simp only [puts, wrB, Bool.false_eq_true, if_false, List.map_nil, ren, rens, List.append_nil]
  refine run_driveS 80 ?_
  simp only [go_sem]
  refine run_driveS 80 ?_
  simp only [go_sem, v3_4, ba_refl]
  refine run_cond_f (by rfl) ?_
  refine run_driveS 80 ?_
  simp only [go_sem, v3_6]
  refine run_cond_f (by rfl) ?_
  refine run_rename [0, 1, 2, 3, 4] (st' := ⟨tmC1 n m z, [E, K, L, R, bvb F n z]⟩) rfl (by simp) ?_ (uniq_nodup (by decide)) ?_ hQ
  · exact hfit_cons rfl (fE _) (hfit_cons rfl (fK _) (hfit_cons rfl (fL _) (hfit_cons rfl (fR _) (hfit_cons rfl (bvb_fit ..) hfit_nil))))
  · simp only [go_sem, tmC1, fit, ren, gmap, ivl_ren, true_or, or_true]
theorem e_good (hG : G 3 = tbl) (hv : ∀ j, v j < 115792089237316195423570985008687907853269984665640564039457584007913129639936) (hl : ∀ j, l j < 115792089237316195423570985008687907853269984665640564039457584007913129639936) (hr : ∀ j, r j < 115792089237316195423570985008687907853269984665640564039457584007913129639936) (hk : nl ≤ 10) (he : nl = nr) {Q : V → Heap → Prop} (hQ : Run Tryd.prog G 3 5 Q (RC', ⟨tmC1 n m z, [E, K, L, R, bvb F n z]⟩)) :
    Run Tryd.prog G 3 5 Q (RE, ⟨tmE1 v n m nl nr z, hpE1 E K L R (bvb F n z) v l r nl nr⟩) := by
  subst he
  have k4 := ivl_known 4 n m z
  have q1 := qc_len v (de 6 nl) (de 8 nl)
  have q2 := qc_known v (de_known 6 nl) (de_known 8 nl)
  have q3 := qc_take v (de 6 nl) (de 8 nl)
  generalize hA : fval v l r nl = A
  have b3 := u8s_brow (32 * (13 + 2 * nl)) (encF A)
  unfold RE tmE1 hpE1
  show Run _ _ _ _ _ (.r (.call (some 36) none (.fn 5) [.t 35] :: v3_2.drop 2) :: _, _)
  refine run_call' rfl ?_
  simp only [go_sem, calV]
  refine vcall_at (Q := fun w h => w = .tup [.sl 3 0 (32 * (13 + 2 * nl)) (.grow 1), .int .i64 0] ∧ h = [none, none, none, some ⟨.grow, brow (32 * (13 + 2 * nl)) (encF A)⟩]) (encode_ok v l r nl (dv 1 nl) (dv 2 nl) (rob l nl) (rob r nl) hG hv hl hr (lenO_dv ..) (lenO_dv ..) (dv_known ..) (dv_known ..) (fun f h => by rw [dv_ren, h]) (fun f h => by rw [dv_ren, h]) (rob_fit' l nl) (rob_fit' r nl) (wrB_rob ..) (wrB_rob ..) (fun h => ⟨_, dv_pos h⟩) (fun h => ⟨_, dv_pos h⟩) (fun h => rob_pos h) (fun h => rob_pos h) hk (by rw [hA]; exact ⟨rfl, rfl⟩)) [0, 5, 7] ?_ ?_ ?_ ?_ ?_
  · simp
  · exact hfit_cons_none (hfit_cons rfl (rob_fit ..) (hfit_cons rfl (rob_fit ..) hfit_nil))
  · exact uniq_nodup (by decide)
  · simp only [rens, ren, gmap, pc_ren, dv_ren]
  rintro _ _ ⟨rfl, rfl⟩
  have w0 : wrB none = false := rfl
  simp only [puts, w0, wrB_rob, Bool.false_eq_true, if_false, List.map_cons, List.map_nil, Option.map_none, Option.map_some, renB, brow_rens, ren, rens, gmap, List.append_nil, List.cons_append, List.nil_append, List.length_cons, List.length_nil, Nat.reduceAdd]
  refine run_driveS 80 ?_
  simp only [go_sem, v3_2, v3_3, List.drop, q1, q2, q3]
  refine run_call' rfl ?_
  simp only [go_sem, calV]
  refine vcall_at (Q := fun w h => w = .tup [.sl 2 0 (32 * (13 + 2 * nl)) (.grow 1), .int .i64 0] ∧ h = [none, none, some ⟨.grow, brow (32 * (13 + 2 * nl)) (encF A)⟩]) (r_encode_ok (fun j => v j % ell) (fun j => v (8 + j) % ell) A nl hk (fun j => l j % ell) (fun j => r j % ell) (fun j hj => by rw [← hA, fv_e _ _ _ _ (by omega)]) (fun j hj => by rw [← hA, fv_e _ _ _ _ (by omega)]) (by rw [← hA, fv_3]) (by rw [← hA, fv_4]) (fun j hj => by rw [← hA, fv_l _ _ _ _ hj]) (fun j hj => by rw [← hA, fv_r _ _ _ _ hj]) ⟨rfl, rfl⟩) [6, 8] ?_ ?_ ?_ ?_ ?_
  · simp
  · exact hfit_cons rfl (eb_fit' ..) (hfit_cons rfl (eb_fit' ..) hfit_nil)
  · exact uniq_nodup (by decide)
  · show _ = rens _ [.agg (qc v (de 0 nl) (de 1 nl))]
    simp only [rens, ren, gmap, qc_ren, de_ren]
  rintro _ _ ⟨rfl, rfl⟩
  simp only [puts, w0, wrB_eb, Bool.false_eq_true, if_false, List.map_cons, List.map_nil, Option.map_none, Option.map_some, renB, brow_rens, ren, rens, gmap, List.append_nil, List.cons_append, List.nil_append, List.length_cons, List.length_nil, Nat.reduceAdd]
  refine run_driveS 80 ?_
  simp only [go_sem]
  refine run_driveS 80 ?_
  simp only [go_sem, v3_4, brow_take, b3, ba_refl]
  refine run_cond_f (by rfl) ?_
  refine run_driveS 80 ?_
  simp only [go_sem, v3_6]
  refine run_cond_t (by rfl) ?_
  refine run_driveS 80 ?_
  simp only [go_sem, v3_7]
  refine run_know (t := 57) (i := 11) rfl rfl fun M hM => ?_
  rw [brow_len] at hM
  rw [Nat.sub_zero, Nat.div_one]
  refine run_call' rfl ?_
  simp only [go_sem, calV]
  refine vcall_at (Q := fun w h => w = .tup [.agg (pc (dP (encF A) nl (13 + 2 * nl)) (.sl 1 0 nl (.exact nl)) (.sl 2 0 nl (.exact nl))), .int .i64 0] ∧ h = [none, some ⟨.rw, scs nl (dL (encF A) (13 + 2 * nl))⟩, some ⟨.rw, scs nl (dR (encF A) (13 + 2 * nl))⟩]) (decode_ok (32 * (13 + 2 * nl)) (encF A) nl M hG (encF_lt A) hk (Nat.le_refl _) hM (by rw [if_pos (er_encF ..)]; exact ⟨rfl, rfl⟩)) [11] ?_ ?_ ?_ ?_ ?_
  · simp
  · exact hfit_cons rfl (bfit_ro (brow_rens ..)) hfit_nil
  · exact uniq_nodup (by decide)
  · simp only [rens, ren, gmap]
  rintro _ _ ⟨rfl, rfl⟩
  simp only [puts, wrB, Bool.false_eq_true, if_false, List.map_cons, List.map_nil, Option.map_some, renB, scs_rens, ren, rens, pc_ren, gmap, List.append_nil, List.cons_append, List.nil_append, List.length_cons, List.length_nil, Nat.reduceAdd]
  have p1 := pc_len (dP (encF A) nl (13 + 2 * nl)) (.sl 13 0 nl (.exact nl)) (.sl 14 0 nl (.exact nl))
  have p2 := pc_known (dP (encF A) nl (13 + 2 * nl)) (.sl 13 0 nl (.exact nl)) (.sl 14 0 nl (.exact nl)) rfl rfl
  have p3 := pc_one (dP (encF A) nl (13 + 2 * nl)) (.sl 13 0 nl (.exact nl)) (.sl 14 0 nl (.exact nl)) rfl rfl
  have p4 := pc_take (dP (encF A) nl (13 + 2 * nl)) (.sl 13 0 nl (.exact nl)) (.sl 14 0 nl (.exact nl))
  refine run_driveS 80 ?_
  simp only [go_sem, p1, p2, p3, p4]
  refine run_driveS 80 ?_
  simp only [go_sem, v3_8, p1, p2, p3, p4, q1, q2, q3]
  refine run_call' rfl ?_
  simp only [go_sem, calV]
  have dl : ∀ a, dP (encF A) nl (13 + 2 * nl) a < 115792089237316195423570985008687907853269984665640564039457584007913129639936 := fun a => Nat.lt_trans (dvl_lt ..) ell_WW
  have lll : ∀ a, dL (encF A) (13 + 2 * nl) a < 115792089237316195423570985008687907853269984665640564039457584007913129639936 := fun a => Nat.lt_trans (dvl_lt ..) ell_WW
  have llr : ∀ a, dR (encF A) (13 + 2 * nl) a < 115792089237316195423570985008687907853269984665640564039457584007913129639936 := fun a => Nat.lt_trans (dvl_lt ..) ell_WW
  refine same_proof (dP (encF A) nl (13 + 2 * nl)) (dL (encF A) (13 + 2 * nl)) (dR (encF A) (13 + 2 * nl)) (fun j => ecs (v j % ell)) (fun j => v (8 + j) % ell) (.sl 13 0 nl (.exact nl)) (.sl 14 0 nl (.exact nl)) (de 6 nl) (de 8 nl) nl (fun j => l j % ell) (fun j => r j % ell) dl lll llr (by omega) (fun _ => ecs_len _) (fun _ => rfl) (fun j hj _ _ hR => line_is_t _ _ (dl j) (by rw [← hA]; exact back_e v l r nl hj) hR) (fun j hj => by rw [← hA]; exact back_t v l r nl hj) (fun j hj => by rw [← hA]; exact back_l v l r nl hj) (fun j hj => by rw [← hA]; exact back_r v l r nl hj) (.inr ⟨13, .exact nl, .rw, rfl, rfl, rfl⟩) (.inr ⟨14, .exact nl, .rw, rfl, rfl, rfl⟩) ?_ ?_ ?_
  · by_cases h : nl = 0
    · exact .inl ⟨h, by rw [h]; rfl⟩
    · exact .inr ⟨6, .grow 26, .grow, de_pos (by omega), rfl, by rw [ebg_pos (by omega)]; rfl⟩
  · by_cases h : nl = 0
    · exact .inl ⟨h, by rw [h]; rfl⟩
    · exact .inr ⟨8, .grow 26, .grow, de_pos (by omega), rfl, by rw [ebg_pos (by omega), ebg_pos (by omega)]; rfl⟩
  refine run_driveS 80 ?_
  simp only [go_sem]
  refine run_cond_f (by rfl) ?_
  refine run_rename [0, 1, 2, 3, 4] (st' := ⟨tmC1 n m z, [E, K, L, R, bvb F n z]⟩) rfl (by simp) ?_ (uniq_nodup (by decide)) ?_ hQ
  · exact hfit_cons rfl (fE _) (hfit_cons rfl (fK _) (hfit_cons rfl (fL _) (hfit_cons rfl (fR _) (hfit_cons rfl (bvb_fit ..) hfit_nil))))
  · simp only [go_sem, tmC1, fit, ren, gmap, ivl_ren, true_or, or_true]
end
end
section
attribute [local go_sem ↓] lc_len lc_take lc_drop lc_known lc_one lc_rens lc_cells lw_known lw_agg lw_asG scs_known scs_one scs_len
attribute [local go_sem ↓] brow_len brow_known brow_one brow_rens bw_known bw_agg bw_cells bw_asG
attribute [local go_sem] lt_nat lt_natl lt_lnat lt_ll bool_tf bool_ft
set_option maxRecDepth 100000
set_option maxHeartbeats 4000000
def vv (es ks : Nat → Nat) (ne nk j : Nat) : Nat := if j < 8 then pk es ne j else pk ks nk (j - 8)
theorem vv_lt {es ks : Nat → Nat} (hes : ∀ j, es j < 115792089237316195423570985008687907853269984665640564039457584007913129639936) (hks : ∀ j, ks j < 115792089237316195423570985008687907853269984665640564039457584007913129639936) (ne nk j : Nat) : vv es ks ne nk j < 115792089237316195423570985008687907853269984665640564039457584007913129639936 := by
  unfold vv
  split
  · exact pk_lt hes _ _
  · exact pk_lt hks _ _
theorem law_codes (hG : G 3 = tbl) (es ks l r F : Nat → Nat) (ne me nk mk nl ml nr mr n m : Nat) (ze zk zl zr z : Bool) (hes : ∀ j, es j < 115792089237316195423570985008687907853269984665640564039457584007913129639936) (hks : ∀ j, ks j < 115792089237316195423570985008687907853269984665640564039457584007913129639936) (hl : ∀ j, l j < 115792089237316195423570985008687907853269984665640564039457584007913129639936) (hr : ∀ j, r j < 115792089237316195423570985008687907853269984665640564039457584007913129639936) (hF : ∀ j, F j < 256) (h201 : F n = 201) (h202 : F (n + 1) = 202)
    (oe : Ok ne me ze) (ok : Ok nk mk zk) (ol : Ok nl ml zl) (or' : Ok nr mr zr) (oz : Ok n m z) (hnl : nl ≤ 1048576) (hnr : nr ≤ 1048576) (hn : n ≤ 1048576) :
    VCall Tryd.prog G 3 [ivl 0 ne me ze, ivl 1 nk mk zk, ivl 2 nl ml zl, ivl 3 nr mr zr, ivl 4 n m z] [ivb es ne ze, ivb ks nk zk, ivb l nl zl, ivb r nr zr, bvb F n z] fun v k => v = .bool true ∧ k = [ivb es ne ze, ivb ks nk zk, ivb l nl zl, ivb r nr zr, bvb F n z] := by
  have k0 := ivl_known 0 ne me ze
  have k1 := ivl_known 1 nk mk zk
  have k2 := ivl_known 2 nl ml zl
  have k3 := ivl_known 3 nr mr zr
  have k4 := ivl_known 4 n m z
  have hv : ∀ j, j < 8 → pk es ne j = vv es ks ne nk j := fun j hj => (if_pos hj).symm
  have hw : ∀ j, j < 5 → pk ks nk j = vv es ks ne nk (8 + j) := fun j hj => by rw [vv, if_neg (by omega), Nat.add_sub_cancel_left]
  have vl := vv_lt hes hks ne nk
  generalize vv es ks ne nk = v at *
  have p1 := pc_len v (dv 5 nl) (dv 7 nr)
  have p2 := pc_known v (dv 5 nl) (dv 7 nr) (dv_known ..) (dv_known ..)
  have p3 := pc_one v (dv 5 nl) (dv 7 nr) (dv_one ..) (dv_one ..)
  have p4 := pc_take v (dv 5 nl) (dv 7 nr)
  have q1 := qc_len v (de 6 nl) (de 8 nr)
  have q2 := qc_known v (de_known 6 nl) (de_known 8 nr)
  have q3 := qc_one v (de_one 6 nl) (de_one 8 nr)
  refine vcall_body Tryd.func3 nm3 code3 nt3 ?_
  refine run_driveS 80 ?_
  simp only [go_sem, v3, v3_0, v3_1, k0, k1, k2, k3]
  refine run_call' rfl ?_
  simp only [go_sem, calV, k0, k1, k2, k3]
  refine vcall_at (Q := fun w h => w = .tup [.agg (pc v (dv 4 nl) (dv 6 nr)), .agg (qc v (de 5 nl) (de 7 nr))] ∧ h = [ivb es ne ze, ivb ks nk zk, ivb l nl zl, ivb r nr zr, db l nl, ebg (fun j => l j % ell) nl, db r nr, ebg (fun j => r j % ell) nr]) (raw_ es ks l r v ne me nk mk nl ml nr mr ze zk zl zr hes hks hl hr oe ok ol or' hv hw hnl hnr ⟨rfl, rfl⟩) [0, 1, 2, 3] ?_ ?_ ?_ ?_ ?_
  · simp
  · exact hfit_cons rfl (ivb_fit ..) (hfit_cons rfl (ivb_fit ..) (hfit_cons rfl (ivb_fit ..) (hfit_cons rfl (ivb_fit ..) hfit_nil)))
  · exact uniq_nodup (by decide)
  · simp only [rens, ivl_ren, gmap]
  rintro _ _ ⟨rfl, rfl⟩
  simp only [puts, wrB_ivb, Bool.false_eq_true, if_false, List.map_cons, List.map_nil, db_ren, ebg_map, ren, rens, pc_ren, qc_ren, dv_ren, de_ren, gmap, List.append_nil, List.cons_append, List.nil_append, List.length_cons, List.length_nil, Nat.reduceAdd]
  refine run_driveS 80 ?_
  simp only [go_sem, v3_2, p1, p2, p3, p4, q1, q2, q3]
  refine run_rename [0, 1, 2, 3, 4, 5, 6, 7, 8, 9, 10] (st' := ⟨tmE1 v n m nl nr z, hpE1 (ivb es ne ze) (ivb ks nk zk) (ivb l nl zl) (ivb r nr zr) (bvb F n z) v l r nl nr⟩) rfl (by simp) ?_ (uniq_nodup (by decide)) ?_ ?_
  · exact hfit_cons rfl (ivb_fit ..) (hfit_cons rfl (ivb_fit ..) (hfit_cons rfl (ivb_fit ..) (hfit_cons rfl (ivb_fit ..) (hfit_cons rfl (bvb_fit ..) (hfit_cons rfl (db_fit ..) (hfit_cons rfl (ebg_fit ..) (hfit_cons rfl (db_fit ..) (hfit_cons rfl (ebg_fit ..) (hfit_cons rfl (bfit_rw (by rw [pc_ren, dv_ren, dv_ren]; rfl)) (hfit_cons rfl (bfit_rw (by rw [qc_ren, de_ren, de_ren]; rfl)) hfit_nil))))))))))
  · simp only [go_sem, tmE1, fit, ren, rens, pc_ren, dv_ren, gmap, ivl_ren, true_or, or_true]
  have hC := law_c hG hF oz hn h201 h202 (ivb es ne ze) (ivb ks nk zk) (ivb l nl zl) (ivb r nr zr) (ivb_fit es ne ze) (ivb_fit ks nk zk) (ivb_fit l nl zl) (ivb_fit r nr zr) (Q := fun v k => v = .bool true ∧ k = [ivb es ne ze, ivb ks nk zk, ivb l nl zl, ivb r nr zr, bvb F n z]) ⟨rfl, rfl⟩
  by_cases hb : nl = nr ∧ nl ≤ 10
  · exact e_good _ _ _ _ (ivb_fit es ne ze) (ivb_fit ks nk zk) (ivb_fit l nl zl) (ivb_fit r nr zr) v l r nl nr hG vl hl hr hb.2 hb.1 hC
  · exact e_bad _ _ _ _ (ivb_fit es ne ze) (ivb_fit ks nk zk) (ivb_fit l nl zl) (ivb_fit r nr zr) v l r nl nr (by omega) hC
end
end Go.Vs.Tryd
namespace Go.Vs.Tryd
open Go.Proofs Go.ChangeShapes Go.WideShapes Go.ChangeAt Go.RowKit
def num (z : Nat → Nat) : Nat := z 0 + 18446744073709551616 * z 1 + 340282366920938463463374607431768211456 * z 2 + 6277101735386680763835789423207666416102355444464034512896 * z 3
theorem lc_num {z : Nat → Nat} (h : ∀ k, z k < 18446744073709551616) : lc (num z) = [.int .u64 (z 0 : Int), .int .u64 (z 1 : Int), .int .u64 (z 2 : Int), .int .u64 (z 3 : Int)] := (lc_of (h 0) (h 1) (h 2) (h 3)).symm
theorem num_lt {z : Nat → Nat} (h : ∀ k, z k < 18446744073709551616) : num z < 115792089237316195423570985008687907853269984665640564039457584007913129639936 := by
  have h0 := h 0; have h1 := h 1; have h2 := h 2; have h3 := h 3
  unfold num
  omega
theorem sim_cells {W : World} {a : Addr} (hs : a.spot = none) (z : Nat → Nat → Nat) (hz : ∀ i k, z i k < 18446744073709551616) : ∀ (n : Nat), (∀ i, i < n → ∀ k, k < 4 → W.cell? (a.add (i * 4 + k)) = some (.int .u64 (z i k : Int))) →
    ∀ (j : Nat) (v : V), (scs n fun i => num (z i))[j]? = some v → ∃ x : Int, v = .int .u64 x ∧ W.cell? ⟨a.block, a.off + j, none⟩ = some (.int .u64 x)
  | 0, _, j, v, hj => by simp [scs, row] at hj
  | n + 1, h, j, v, hj => by
    have hlen := scs_len n fun i => num (z i)
    have e : (scs (n + 1) fun i => num (z i)) = (scs n fun i => num (z i)) ++ lc (num (z n)) := rfl
    rw [e] at hj
    rcases Nat.lt_or_ge j (n * 4) with hlt | hge
    · rw [List.getElem?_append_left (by rw [hlen]; exact hlt)] at hj
      exact sim_cells hs z hz n (fun i hi => h i (by omega)) j v hj
    · rw [List.getElem?_append_right (by rw [hlen]; exact hge), hlen, lc_num (hz n)] at hj
      have key : ∀ k, k < 4 → j - n * 4 = k → W.cell? ⟨a.block, a.off + j, none⟩ = some (.int .u64 (z n k : Int)) := by
        intro k hk e
        have := h n (Nat.lt_succ_self n) k hk
        rw [show n * 4 + k = j by omega] at this
        obtain ⟨b, o, sp⟩ := a
        simp only at hs
        subst hs
        rw [Addr.add_lit] at this
        exact this
      have : j - n * 4 < 4 := by
        have := (List.getElem?_eq_some_iff.1 hj).1
        simpa using this
      have : j - n * 4 = 0 ∨ j - n * 4 = 1 ∨ j - n * 4 = 2 ∨ j - n * 4 = 3 := by omega
      rcases this with e | e | e | e <;> rw [e] at hj <;> simp at hj <;> subst hj
      · exact ⟨_, rfl, key 0 (by omega) e⟩
      · exact ⟨_, rfl, key 1 (by omega) e⟩
      · exact ⟨_, rfl, key 2 (by omega) e⟩
      · exact ⟨_, rfl, key 3 (by omega) e⟩
def GlobsOk (G : Nat → List V) (W : World) : Prop := (∀ g o v, (G g)[o]? = some v → v ≠ .unk → ∃ r, conc [] v = some r ∧ W.cell? ⟨g, o, none⟩ = some r) ∧ ∀ g, W.heap.size ≤ g → G g = []
def RoB (W : World) (b : Option Blk) (p : Option Pl) : Prop :=
  b = none ∨ ∃ cs q, b = some ⟨.ro, cs⟩ ∧ p = some q ∧ q.block < W.heap.size ∧ cs.length ≤ q.size ∧ ∀ (j : Nat) v, cs[j]? = some v → v ≠ .unk → ∃ r, conc [] v = some r ∧ W.cell? ⟨q.block, q.base + j, none⟩ = some r
theorem sim_ro {G : Nat → List V} {W : World} (hG : GlobsOk G W) {ρ : Rho} {h : Heap} (hl : ρ.length = h.length) (hb : ∀ i b, h[i]? = some b → RoB W b (place ρ i)) : Sim G ρ h W := by
  have key : ∀ i b, Live h i b → ∃ q, b.kind = .ro ∧ place ρ i = some q ∧ q.block < W.heap.size ∧ b.cells.length ≤ q.size ∧ ∀ (j : Nat) v, b.cells[j]? = some v → v ≠ .unk → ∃ r, conc [] v = some r ∧ W.cell? ⟨q.block, q.base + j, none⟩ = some r := by
    intro i b hi
    rcases hb i (some b) hi with e | ⟨cs, q, e, h1, h2, h3, h4⟩
    · cases e
    · cases e; exact ⟨q, rfl, h1, h2, h3, h4⟩
  refine ⟨hl, fun i b h => ?_, fun i b r h hp _ j v hj hu => ?_, fun i b r h hp => ?_, fun i b r h hp hk => ?_, fun i j bi bj pi pj hij hi hj h1 h2 h3 => ?_, hG.1, hG.2, fun i b p r h hp hk => ?_⟩
  · obtain ⟨q, _, h1, _⟩ := key i b h
    exact ⟨q, h1⟩
  · obtain ⟨q, _, h1, _, _, h4⟩ := key i b h
    obtain rfl := Option.some.inj (h1.symm.trans hp)
    obtain ⟨x, e1, e2⟩ := h4 j v hj hu
    exact ⟨x, conc_ext (fun i p hp => by simp [place] at hp) _ _ e1, e2⟩
  · obtain ⟨q, _, h1, h2, h3, _⟩ := key i b h
    obtain rfl := Option.some.inj (h1.symm.trans hp)
    exact ⟨h2, h3⟩
  · obtain ⟨q, h0, _⟩ := key i b h
    rw [h0] at hk; cases hk
  · obtain ⟨q, h0, _⟩ := key i bi hi
    exact absurd h0 h3
  · obtain ⟨q, h0, _⟩ := key i b h
    rw [h0] at hk; cases hk
theorem globs_one {P : Program} {W : World} {name : String} {g : Nat} (hg : P.globalNamed name = some g) {rs : Array Value} (h : W.var? P name = some rs) {cs : List V} (hc : concs [] cs = some rs.toList) : GlobsOk (fun k => if k = g then cs else []) W := by
  unfold World.var? at h
  rw [hg] at h
  simp only [Option.bind_some] at h
  split at h <;> try (cases h; done)
  rename_i cells e fr hh
  simp only [Option.some.injEq] at h
  subst h
  refine ⟨fun k o v hv _ => ?_, fun k hle => ?_⟩
  · dsimp only at hv
    split at hv
    · rename_i e0
      subst e0
      obtain ⟨x, hx, hr⟩ := concs_get hc o v hv
      refine ⟨x, hx, ?_⟩
      unfold World.cell?
      simp only [hh]
      simpa using hr
    · simp at hv
  · dsimp only
    rw [if_neg]
    rintro rfl
    have : W.heap[k]? = none := Array.getElem?_eq_none hle
    rw [this] at hh
    cases hh
variable {P : Program} {H : Type} {enc : TypeId × Value → H} {W : World} {base : Nat}
theorem elem_of {e w : TypeId} (he : P.underlying e = some (.array 4 w)) (hw : P.underlying w = some (.int .u64)) (s1 : P.cellsOf w = 1) (s4 : P.cellsOf e = 4) {n : Nat} {cs : List Value} {x : DataW H × List MemPlace} (h : DataW.trod enc P W 0 (fun _ => true) true n e cs = some x) :
    ∃ z : Nat → Nat, (∀ k, z k < 18446744073709551616) ∧ cs.length = 4 ∧ ∀ k, k < 4 → cs[k]? = some (.int .u64 (z k : Int)) := by
  obtain ⟨xs, m, _, _, hl, hxl, hel⟩ := DataW.trod_array he h
  rw [s4] at hl
  have key : ∀ k, k < 4 → ∃ z : Nat, z < 18446744073709551616 ∧ cs[k]? = some (.int .u64 (z : Int)) := by
    intro k hk
    have hk' := hel k hk
    rw [s1, Nat.mul_one] at hk'
    obtain ⟨y, hy⟩ : ∃ y, xs[k]? = some y := ⟨xs[k], List.getElem?_eq_getElem (by omega)⟩
    rw [hy] at hk'
    obtain ⟨z, e1, _, hwf⟩ := DataW.trod_int hw hk'
    have hb := bounds_u64 hwf
    refine ⟨z.toNat, by omega, ?_⟩
    have e2 : ((cs.drop k).take 1)[0]? = some (.int .u64 z) := by rw [e1]; rfl
    rw [List.getElem?_take_of_lt (by decide), List.getElem?_drop, Nat.add_zero] at e2
    rw [e2, show ((z.toNat : Nat) : Int) = z by omega]
  obtain ⟨z0, a0, b0⟩ := key 0 (by omega)
  obtain ⟨z1, a1, b1⟩ := key 1 (by omega)
  obtain ⟨z2, a2, b2⟩ := key 2 (by omega)
  obtain ⟨z3, a3, b3⟩ := key 3 (by omega)
  refine ⟨fun k => if k = 0 then z0 else if k = 1 then z1 else if k = 2 then z2 else if k = 3 then z3 else 0, fun k => ?_, hl, fun k hk => ?_⟩
  · show (if k = 0 then z0 else if k = 1 then z1 else if k = 2 then z2 else if k = 3 then z3 else 0) < _
    (repeat' split) <;> omega
  · have : k = 0 ∨ k = 1 ∨ k = 2 ∨ k = 3 := by omega
    rcases this with rfl | rfl | rfl | rfl
    · exact b0
    · exact b1
    · exact b2
    · exact b3
theorem slice_of {t e w : TypeId} (ht : P.underlying t = some (.slice e)) (he : P.underlying e = some (.array 4 w)) (hw : P.underlying w = some (.int .u64)) (s1 : P.cellsOf w = 1) (s4 : P.cellsOf e = 4) {n : Nat} {v : Value} {x : DataW H × List MemPlace}
    (hok : Cell.okWide P W .any base t v) (h : DataW.trod enc P W 0 (fun _ => true) true n t [v] = some x) :
    ∃ (f : Nat → Nat) (n m : Nat) (z : Bool) (p : Option Pl), Ok n m z ∧ (∀ j, f j < 115792089237316195423570985008687907853269984665640564039457584007913129639936) ∧ RoB W (ivb f n z) p ∧ ∀ ρ i, place ρ i = p → conc ρ (ivl i n m z) = some v := by
  unfold Cell.okWide at hok
  rw [ht] at hok
  have hok : Cell.ok P W .any base t v := by
    cases v <;> exact hok
  unfold Cell.ok at hok
  rw [ht] at hok
  split at hok <;> try (exact hok.elim) <;> try (rename_i e _; cases e; done)
  all_goals try (rename_i e; cases e; done)
  all_goals try (rename_i e _ ; cases e; done)
  · exact ⟨fun _ => 0, 0, 0, true, none, ⟨Nat.le_refl _, fun _ => rfl⟩, fun _ => (by decide : (0 : Nat) < 115792089237316195423570985008687907853269984665640564039457584007913129639936), .inl rfl, fun _ _ _ => rfl⟩
  · rename_i e' a len cap heq _
    obtain rfl : e = e' := by simpa using heq
    obtain ⟨hlc, hcap, _, hspot, row, cells, hshape, _⟩ := hok
    have hblk : a.block < W.heap.size := by
      unfold World.shape? at hshape
      split at hshape
      · rename_i e
        exact (Array.getElem?_eq_some_iff.1 e).1
      · cases hshape
    rcases Go.Deep.open_slice ht h with ⟨e, _⟩ | ⟨a', len', cap', m, n, D, Pl, e, _, _, _, hm, _, hel⟩
    · simp at e
    · have e' : a = a' ∧ len = len' ∧ cap = cap' := by simpa using e
      obtain ⟨rfl, rfl, rfl⟩ := e'
      have hm' : m = cap := by rw [hm]; rfl
      have hex : ∀ i, i < len → ∃ z : Nat → Nat, (∀ k, z k < 18446744073709551616) ∧ ∀ k, k < 4 → W.cell? (a.add (i * 4 + k)) = some (.int .u64 (z k : Int)) := by
        intro i hi
        obtain ⟨cs', h1, h2⟩ := hel i (by omega)
        obtain ⟨z, hz, _, hc⟩ := elem_of he hw s1 s4 h2
        refine ⟨z, hz, fun k hk => ?_⟩
        rw [s4] at h1
        unfold World.cells? at h1
        rw [if_pos (Nat.zero_le _)] at h1
        have h3 := mapM_some_get h1 k k (by rw [List.getElem?_range hk])
        rw [hc k hk, Go.Deep.add_add] at h3
        exact h3
      obtain ⟨Z, hZ⟩ := Go.Deep.choose_lt hex
      let z' : Nat → Nat → Nat := fun i => if i < len then Z i else fun _ => 0
      have hz' : ∀ i k, z' i k < 18446744073709551616 := by
        intro i k
        show (if i < len then Z i else fun _ => 0) k < _
        split
        · rename_i hi; exact (hZ i hi).1 k
        · exact (by decide : (0 : Nat) < 18446744073709551616)
      have hc' : ∀ i, i < len → ∀ k, k < 4 → W.cell? (a.add (i * 4 + k)) = some (.int .u64 (z' i k : Int)) := by
        intro i hi k hk
        show _ = some (Value.int .u64 (((if i < len then Z i else fun _ => 0) k : Nat) : Int))
        rw [if_pos hi]
        exact (hZ i hi).2 k hk
      refine ⟨fun i => num (z' i), len, cap, false, some ⟨a.block, a.off, len * 4⟩, ⟨hlc, fun h => (by cases h)⟩, fun j => num_lt (hz' j), .inr ⟨_, _, rfl, rfl, hblk, by rw [scs_len]; exact Nat.le_refl _, fun j v hj _ => ?_⟩, fun ρ i hp => ?_⟩
      · obtain ⟨x, rfl, hx⟩ := sim_cells hspot z' hz' len hc' j v hj
        exact ⟨_, rfl, hx⟩
      · obtain ⟨b, o, sp⟩ := a
        simp only at hspot
        subst hspot
        show (place ρ i).map _ = _
        rw [hp]
        rfl
theorem calls_of {G : Nat → List V} {f : FuncId} {args : List V} {h : Heap} {u : V} (hcf : ∀ (xs : Array Value) w, (callFunc f xs).run P w = .ok (.enter f xs) w) (hro : ∀ b ∈ h, wrB b = false) (hv : VCall P G f args h fun v k => v = u ∧ k = h) {ρ : Rho} {W : World} {vs : List Value} {r : Value}
    (hs : Sim G ρ h W) (hc : concs ρ args = some vs) (hr : ∀ ρ, conc ρ u = some r) : Calls P f vs.toArray W fun e w' => e = .returned r ∧ Below W.heap.size W w' := by
  have hno : ∀ b, ¬ WR ρ h b := by
    rintro b ⟨i, bk, q, h1, h2, h3, h4⟩
    exact h3 (by
      have := hro _ (List.mem_of_getElem? h1)
      obtain ⟨k, c⟩ := bk
      cases k <;> simp [wrB] at this ⊢)
  rcases hv ρ W vs hs hc with ⟨_, h⟩ | ⟨v', w', h, _⟩
  · refine h.mono fun e w' hr' => ?_
    obtain ⟨ρ', x, h', y, rfl, h2, h3, h4, rfl, _⟩ := hr'
    rw [hr] at h2
    cases h2
    exact ⟨rfl, h4.os, h4.tape, h4.output, h4.size, fun b hb => h4.same b hb (hno b)⟩
  · rw [hcf] at h
    cases h
end Go.Vs.Tryd
namespace Go.Proofs.YthjchgboecjekaaDoor
open Go.ChangeShapes Go.WideShapes Go.ChangeAt Go.RowKit Go.Vs
set_option maxRecDepth 100000
theorem u24 : Tryd.prog.underlying 24 = some (.int .u64) := by kernel_rfl
theorem u26 : Tryd.prog.underlying 26 = some (.array 4 24) := by kernel_rfl
theorem u22 : Tryd.prog.underlying 22 = some (.slice 26) := by kernel_rfl
theorem u23 : Tryd.prog.underlying 23 = some (.slice 5) := by kernel_rfl
theorem u5 : Tryd.prog.underlying 5 = some (.int .u8) := by kernel_rfl
theorem u142 : Tryd.prog.underlying 142 = some (.array 4 26) := by kernel_rfl
theorem c24 : Tryd.prog.cellsOf 24 = 1 := by kernel_rfl
theorem c26 : Tryd.prog.cellsOf 26 = 4 := by kernel_rfl
theorem c5 : Tryd.prog.cellsOf 5 = 1 := by kernel_rfl
theorem c142 : Tryd.prog.cellsOf 142 = 16 := by kernel_rfl
theorem four {n : Nat} {W : World} {base : Nat} {sp : Nat → Bool} {held : Bool} {enc : TypeId × Value → Unit} {cs : List Value} {a b c d : Int} {p : List MemPlace} (h : DataW.trod enc Tryd.prog W base sp held n 26 cs = some (.agg [.lit (.int .u64 a), .lit (.int .u64 b), .lit (.int .u64 c), .lit (.int .u64 d)], p)) :
    cs = [.int .u64 a, .int .u64 b, .int .u64 c, .int .u64 d] := by
  obtain ⟨xs, m, _, ex, hlen, hl, hel⟩ := DataW.trod_array u26 h
  rw [c26] at hlen
  match cs, hlen with
  | [v0, v1, v2, v3], _ =>
    match xs, hl with
    | [x0, x1, x2, x3], _ =>
      have e3 := (DataW.agg.inj (Prod.mk.inj ex).1)
      simp only [List.map_cons, List.map_nil, List.cons.injEq, and_true] at e3
      have k0 := hel 0 (by omega); have k1 := hel 1 (by omega); have k2 := hel 2 (by omega); have k3 := hel 3 (by omega)
      rw [c24] at k0 k1 k2 k3
      obtain ⟨z0, a0, b0, _⟩ := DataW.trod_int u24 k0
      obtain ⟨z1, a1, b1, _⟩ := DataW.trod_int u24 k1
      obtain ⟨z2, a2, b2, _⟩ := DataW.trod_int u24 k2
      obtain ⟨z3, a3, b3, _⟩ := DataW.trod_int u24 k3
      simp_all
def tblV : Array Value := #[.int .u64 6346243789798364141, .int .u64 1503914060200516822, .int .u64 0, .int .u64 1152921504606846976, .int .u64 15486807595281847581, .int .u64 14334777244411350896, .int .u64 18446744073709551614, .int .u64 1152921504606846975, .int .u64 11819153939886771969, .int .u64 14991950615390032711, .int .u64 14910419812499177061, .int .u64 259310039853996605, .int .u64 6346243789798364139, .int .u64 1503914060200516822, .int .u64 0, .int .u64 1152921504606846976]
theorem laidVars_tail {W : World} {n : String} {d : DataW Unit} {r : List (String × DataW Unit)} : (∃ ps, DataW.LaidVars Tryd.prog W ((n, d) :: r) ps) → ∃ ps, DataW.LaidVars Tryd.prog W r ps := by
  rintro ⟨_, g, t, cs, fuel, p, q, _, _, _, _, h, _⟩
  exact ⟨q, h⟩
theorem tableCells {W : World} (hp : laidMet Tryd.prog Rows.arithCodesUptoRow.laid W) : W.var? Tryd.prog "veil/scalar.table" = some tblV := by
  obtain ⟨ps, hv0, _, _⟩ := hp
  have h2 := laidVars_tail (laidVars_tail ⟨ps, hv0⟩)
  obtain ⟨ps2, g, t, cs, fuel, p, q, hg, ht, hv, hd, _, _⟩ := h2
  obtain rfl := Option.some.inj ((show Tryd.prog.globalNamed "veil/scalar.table" = some 3 by kernel_rfl).symm.trans hg)
  obtain rfl := Option.some.inj ((show (Tryd.prog.globals[3]?).map (·.type) = some 142 by kernel_rfl).symm.trans ht)
  obtain ⟨xs, m, _, ex, hlen, hl, hel⟩ := DataW.trod_array u142 hd
  rw [c142] at hlen
  match xs, hl with
  | [x0, x1, x2, x3], _ =>
    have e3 := (DataW.agg.inj (Prod.mk.inj ex).1)
    simp only [List.map_cons, List.map_nil, List.cons.injEq, and_true] at e3
    obtain ⟨e0, e1, e2, e3⟩ := e3
    have k0 := hel 0 (by omega); have k1 := hel 1 (by omega); have k2 := hel 2 (by omega); have k3 := hel 3 (by omega)
    rw [c26] at k0 k1 k2 k3
    obtain ⟨d0, p0⟩ := x0
    obtain ⟨d1, p1⟩ := x1
    obtain ⟨d2, p2⟩ := x2
    obtain ⟨d3, p3⟩ := x3
    simp only at e0 e1 e2 e3
    subst e0 e1 e2 e3
    have f0 := four k0
    have f1 := four k1
    have f2 := four k2
    have f3 := four k3
    rw [hv]
    obtain ⟨l⟩ := cs
    simp only at f0 f1 f2 f3 hlen
    have hsplit : l = (l.drop (0 * 4)).take 4 ++ (l.drop (1 * 4)).take 4 ++ (l.drop (2 * 4)).take 4 ++ (l.drop (3 * 4)).take 4 := by
      match l, hlen with
      | [_, _, _, _, _, _, _, _, _, _, _, _, _, _, _, _], _ => rfl
    rw [hsplit, f0, f1, f2, f3]
    rfl
def GT : Nat → List V := fun g => if g = 3 then Go.Vs.Tryd.tbl else []
theorem globs_of {W : World} (h : W.var? Tryd.prog "veil/scalar.table" = some tblV) : Go.Vs.Tryd.GlobsOk GT W :=
  Go.Vs.Tryd.globs_one (show Tryd.prog.globalNamed "veil/scalar.table" = some 3 by kernel_rfl) h (by rfl)
theorem one_le {H : Type} (d : DataW H) : 1 ≤ Rows.uptoBulk d := by
  cases d with
  | lit l => cases l <;> simp [Rows.uptoBulk]
  | nil => simp [Rows.uptoBulk]
  | ptr d => simp [Rows.uptoBulk]
  | slice elems spare => simp [Rows.uptoBulk]
  | agg parts => simp [Rows.uptoBulk]
  | iface t d => simp [Rows.uptoBulk]
  | map entries => simp [Rows.uptoBulk]
  | held h => simp [Rows.uptoBulk]
theorem length_le {H : Type} (l : List (DataW H)) : l.length ≤ Rows.uptoBulkAll l := by
  induction l with
  | nil => simp [Rows.uptoBulkAll]
  | cons x r ih => have := one_le x; simp only [Rows.uptoBulkAll, List.length_cons]; omega
theorem slice_len {H : Type} {enc : TypeId × Value → H} {W : World} {t e : TypeId} (ht : Tryd.prog.underlying t = some (.slice e)) {fuel : Nat} {o : Option Addr} {len cap : Nat} {d : DataW H} {ps : List MemPlace} (h : DataW.trod enc Tryd.prog W 0 (fun _ => true) true fuel t [.slice o len cap] = some (d, ps)) : len ≤ Rows.uptoBulk d := by
  rcases Go.Deep.open_slice ht h with ⟨e, _⟩ | ⟨a', len', cap', m, n, D, Pl, e, _, _, _, hm, ex, hel⟩
  · have : len = 0 := by simp at e; exact e.2.1
    omega
  · have e' : len = len' := by simp at e; exact e.2.1
    subst e'
    have ed := (Prod.mk.inj ex).1
    rw [ed]
    have := length_le ((List.range len).map D)
    rw [List.length_map, List.length_range] at this
    simp only [Rows.uptoBulk]
    omega
theorem ivl_len {n m : Nat} {z : Bool} {v : Value} (hok : Go.Vs.Tryd.Ok n m z) {p : Option Pl} (h : ∀ ρ i, place ρ i = p → conc ρ (Go.Vs.Tryd.ivl i n m z) = some v) : ∃ o, v = .slice o n m ∨ n = 0 := by
  cases z with
  | true => exact ⟨none, .inr (hok.2 rfl)⟩
  | false =>
    have h := h [p] 0 rfl
    change (place [p] 0).map _ = some v at h
    rw [Option.map_eq_some_iff] at h
    obtain ⟨q, _, e⟩ := h
    exact ⟨_, .inl e.symm⟩
theorem len_le {H : Type} {enc : TypeId × Value → H} {W : World} {t e : TypeId} (ht : Tryd.prog.underlying t = some (.slice e)) {fuel n m : Nat} {z : Bool} {v : Value} {d : DataW H} {ps : List MemPlace} (hok : Go.Vs.Tryd.Ok n m z) {p : Option Pl} (hc : ∀ ρ i, place ρ i = p → conc ρ (Go.Vs.Tryd.ivl i n m z) = some v) (h : DataW.trod enc Tryd.prog W 0 (fun _ => true) true fuel t [v] = some (d, ps)) : n ≤ Rows.uptoBulk d := by
  obtain ⟨o, rfl | h0⟩ := ivl_len hok hc
  · exact slice_len ht h
  · omega
theorem bytes_of {H : Type} {enc : TypeId × Value → H} {W : World} {base fuel : Nat} {v : Value} {x : DataW H × List MemPlace} (hok : Cell.okWide Tryd.prog W .any base 23 v) (h : DataW.trod enc Tryd.prog W 0 (fun _ => true) true fuel 23 [v] = some x) :
    ∃ (F : Nat → Nat) (n m : Nat) (z : Bool) (p : Option Pl), Go.Vs.Tryd.Ok n m z ∧ (∀ j, F j < 256) ∧ F n = 201 ∧ F (n + 1) = 202 ∧ Go.Vs.Tryd.RoB W (Go.Vs.Tryd.bvb F n z) p ∧ ∀ ρ i, place ρ i = p → conc ρ (Go.Vs.Tryd.ivl i n m z) = some v := by
  have ht := u23
  unfold Cell.okWide at hok
  rw [ht] at hok
  have hok : Cell.ok Tryd.prog W .any base 23 v := by
    cases v <;> exact hok
  unfold Cell.ok at hok
  rw [ht] at hok
  split at hok <;> try (exact hok.elim) <;> try (rename_i e _; cases e; done)
  all_goals try (rename_i e; cases e; done)
  all_goals try (rename_i e _ ; cases e; done)
  · refine ⟨fun j => if j = 0 then 201 else 202, 0, 0, true, none, ⟨Nat.le_refl _, fun _ => rfl⟩, fun j => ?_, rfl, rfl, .inl rfl, fun _ _ _ => rfl⟩
    show (if j = 0 then 201 else 202) < 256
    split <;> decide
  · rename_i e' a len cap heq _
    obtain rfl : e' = 5 := by simpa using heq.symm
    obtain ⟨hlc, hcap, _, hspot, row, cells, hshape, _⟩ := hok
    have hblk : a.block < W.heap.size := by
      unfold World.shape? at hshape
      split at hshape
      · rename_i e
        exact (Array.getElem?_eq_some_iff.1 e).1
      · cases hshape
    rcases Go.Deep.open_slice1 ht c5 h with ⟨e, _⟩ | ⟨a', len', cap', m, n, VV, D, Pl, e, _, _, _, hm, _, hel⟩
    · simp at e
    · have e' : a = a' ∧ len = len' ∧ cap = cap' := by simpa using e
      obtain ⟨rfl, rfl, rfl⟩ := e'
      have hm' : m = cap := by rw [hm]; rfl
      have hex : ∀ i, i < len → ∃ z : Nat, z < 256 ∧ W.cell? (a.add i) = some (.int .u8 (z : Int)) := by
        intro i hi
        obtain ⟨h1, h2⟩ := hel i (by omega)
        obtain ⟨z, e1, _, hwf⟩ := DataW.trod_int u5 h2
        have hb := bounds_u8 hwf
        refine ⟨z.toNat, by omega, ?_⟩
        rw [h1, show VV i = .int .u8 z by simpa using e1, show ((z.toNat : Nat) : Int) = z by omega]
      obtain ⟨Z, hZ⟩ := Go.Deep.choose_lt hex
      refine ⟨fun j => if j < len then Z j else if j = len then 201 else 202, len, cap, false, some ⟨a.block, a.off, len⟩, ⟨hlc, fun h => (by cases h)⟩, fun j => ?_, ?_, ?_, .inr ⟨_, _, rfl, rfl, hblk, by rw [Go.Vs.Tryd.brow_len]; exact Nat.le_refl _, fun j v hj _ => ?_⟩, fun ρ i hp => ?_⟩
      · show (if j < len then Z j else if j = len then 201 else 202) < 256
        split
        · rename_i hi; exact (hZ j hi).1
        · split <;> decide
      · show (if len < len then Z len else if len = len then 201 else 202) = 201
        rw [if_neg (by omega), if_pos rfl]
      · show (if len + 1 < len then Z (len + 1) else if len + 1 = len then 201 else 202) = 202
        rw [if_neg (by omega), if_neg (by omega)]
      · have hlt : j < len := by
          have := (List.getElem?_eq_some_iff.1 hj).1
          rwa [Go.Vs.Tryd.brow_len] at this
        have hg := Go.Vs.Tryd.brow_get' len (fun j => if j < len then Z j else if j = len then 201 else 202) hlt
        have hv : v = .int .u8 (((if j < len then Z j else if j = len then 201 else 202 : Nat)) : Int) := by
          have e2 := congrArg (·[0]?) hg
          simp only [List.getElem?_take_of_lt (by decide : 0 < 1), List.getElem?_drop, Nat.add_zero, List.getElem?_cons_zero] at e2
          rw [hj] at e2
          exact Option.some.inj e2
        rw [if_pos hlt] at hv
        subst hv
        refine ⟨_, rfl, ?_⟩
        have := (hZ j hlt).2
        obtain ⟨b, o, sp⟩ := a
        simp only at hspot
        subst hspot
        rw [Addr.add_lit] at this
        exact this
      · obtain ⟨b, o, sp⟩ := a
        simp only at hspot
        subst hspot
        show (place ρ i).map _ = _
        rw [hp]
        rfl
theorem cells_one {W : World} {base : Nat} {t e : TypeId} (ht : Tryd.prog.underlying t = some (.slice e)) {v : Value} (hok : Cell.okWide Tryd.prog W .any base t v) : v.cells.toList = [v] := by
  cases v <;> first
    | rfl
    | (exfalso
       unfold Cell.okWide at hok
       rw [ht] at hok
       unfold Cell.ok at hok
       rw [ht] at hok
       exact hok)
theorem enters3 (xs : Array Value) (w : World) : (callFunc 3 xs).run Tryd.prog w = .ok (.enter 3 xs) w := by
  have h1 : Tryd.f3.name ≠ "runtime.NumGoroutine" := by have := Go.Vs.Tryd.nm3; simpa using this
  obtain ⟨c, hb, _⟩ := Option.bind_eq_some_iff.1 Go.Vs.Tryd.code3
  simp [callFunc, Tryd.func3, h1, hb]
theorem own : ownKnob Tryd.prog.godebug = none := by kernel_rfl
theorem wrB_bvb (F : Nat → Nat) (n : Nat) (z : Bool) : wrB (Go.Vs.Tryd.bvb F n z) = false := by cases z <;> rfl
theorem contract (H : Type) (enc : TypeId × Value → H) (W : World) (base : Nat) (args : Array Value) (ds gs : List (DataW H)) (before : List MemPlace)
    (hval : ∀ (j : Nat) t v, Tryd.f3.params[j]? = some t → args[j]? = some v → Value.okWide Tryd.prog W .any base t v)
    (hW : DataW.Whole enc Tryd.prog Tryd.f3.params.toList Rows.arithCodesSpec.vars false W args.toList ds gs before) (hL : laidMetH Tryd.prog Rows.arithCodesUptoRow.laid W) (hk : Rows.uptoSmall H (ds ++ gs) = true) :
    Calls Tryd.prog 3 args W fun e W' => ∃ v, e = .returned v ∧ Rows.arithCodesSpec.post enc Tryd.prog Tryd.f3 false true false false W args v W' := by
  have hW' := hW
  obtain ⟨p, q, hA0, hV, rfl, _, _⟩ := hW
  have hA : DataW.TrodAll enc Tryd.prog W 0 (fun _ => true) true Tryd.f3.params.toList args.toList ds p := hA0
  rw [Tryd.params3] at hA hval
  obtain ⟨v0, vs0, d0, ds0, p0, q0, hargs, rfl, rfl, h0, r0⟩ := trodAll_cons hA
  obtain ⟨v1, vs1, d1, ds1, p1, q1, rfl, rfl, rfl, h1, r1⟩ := trodAll_cons r0
  obtain ⟨v2, vs2, d2, ds2, p2, q2, rfl, rfl, rfl, h2, r2⟩ := trodAll_cons r1
  obtain ⟨v3, vs3, d3, ds3, p3, q3, rfl, rfl, rfl, h3, r3⟩ := trodAll_cons r2
  obtain ⟨v4, vs4, d4, ds4, p4, q4, rfl, rfl, rfl, h4, r4⟩ := trodAll_cons r3
  obtain ⟨rfl, rfl, rfl⟩ := trodAll_nil r4
  obtain rfl : args = #[v0, v1, v2, v3, v4] := by cases args; simp_all
  obtain ⟨rfl, rfl⟩ := trodVars_none hV
  clear hA0
  simp only [List.append_nil] at hW' hk
  have hbulk : Rows.uptoBulkAll [d0, d1, d2, d3, d4] ≤ 1048576 := of_decide_eq_true hk
  simp only [Rows.uptoBulkAll] at hbulk
  rw [MakeChecks.laidMetH_plain _ _ _ (by kernel_rfl)] at hL
  have hGl := globs_of (tableCells hL)
  have cell : ∀ (j : Nat) t v, (#[22, 22, 22, 22, 23] : Array TypeId)[j]? = some t → (#[v0, v1, v2, v3, v4] : Array Value)[j]? = some v → (t = 22 ∨ t = 23) → Cell.okWide Tryd.prog W .any base t v := fun j t v ht hv h => by
    have := hval j t v ht hv
    rcases h with rfl | rfl
    · unfold Value.okWide at this
      rw [u22] at this
      exact this
    · unfold Value.okWide at this
      rw [u23] at this
      exact this
  obtain ⟨f0, g0'⟩ := h0
  have g0 := g0'
  rw [cells_one u22 (cell 0 22 v0 rfl rfl (.inl rfl))] at g0
  obtain ⟨f1, g1'⟩ := h1
  have g1 := g1'
  rw [cells_one u22 (cell 1 22 v1 rfl rfl (.inl rfl))] at g1
  obtain ⟨f2, g2'⟩ := h2
  have g2 := g2'
  rw [cells_one u22 (cell 2 22 v2 rfl rfl (.inl rfl))] at g2
  obtain ⟨f3, g3'⟩ := h3
  have g3 := g3'
  rw [cells_one u22 (cell 3 22 v3 rfl rfl (.inl rfl))] at g3
  obtain ⟨f4, g4'⟩ := h4
  have g4 := g4'
  rw [cells_one u23 (cell 4 23 v4 rfl rfl (.inr rfl))] at g4
  obtain ⟨es, ne, me, ze, P0, o0, b0, R0, C0⟩ := Go.Vs.Tryd.slice_of u22 u26 u24 c24 c26 (cell 0 22 v0 rfl rfl (.inl rfl)) g0
  obtain ⟨ks, nk, mk, zk, P1, o1, b1, R1, C1⟩ := Go.Vs.Tryd.slice_of u22 u26 u24 c24 c26 (cell 1 22 v1 rfl rfl (.inl rfl)) g1
  obtain ⟨l, nl, ml, zl, P2, o2, b2, R2, C2⟩ := Go.Vs.Tryd.slice_of u22 u26 u24 c24 c26 (cell 2 22 v2 rfl rfl (.inl rfl)) g2
  obtain ⟨r, nr, mr, zr, P3, o3, b3, R3, C3⟩ := Go.Vs.Tryd.slice_of u22 u26 u24 c24 c26 (cell 3 22 v3 rfl rfl (.inl rfl)) g3
  obtain ⟨F, n, m, z, P4, o4, b4, b5, b6, R4, C4⟩ := bytes_of (cell 4 23 v4 rfl rfl (.inr rfl)) g4
  have l2 := len_le u22 o2 C2 g2
  have l3 := len_le u22 o3 C3 g3
  have l4 := len_le u23 o4 C4 g4
  have hsim : Sim GT [P0, P1, P2, P3, P4] [Go.Vs.Tryd.ivb es ne ze, Go.Vs.Tryd.ivb ks nk zk, Go.Vs.Tryd.ivb l nl zl, Go.Vs.Tryd.ivb r nr zr, Go.Vs.Tryd.bvb F n z] W := by
    refine Go.Vs.Tryd.sim_ro hGl rfl fun i b hi => ?_
    match i, hi with
    | 0, hi => cases hi; exact R0
    | 1, hi => cases hi; exact R1
    | 2, hi => cases hi; exact R2
    | 3, hi => cases hi; exact R3
    | 4, hi => cases hi; exact R4
    | n + 5, hi => simp at hi
  have hv := Go.Vs.Tryd.law_codes (G := GT) rfl es ks l r F ne me nk mk nl ml nr mr n m ze zk zl zr z b0 b1 b2 b3 b4 b5 b6 o0 o1 o2 o3 o4 (by omega) (by omega) (by omega)
  have hlt : ∀ x ∈ p0 ++ (p1 ++ (p2 ++ (p3 ++ p4))), x.block < W.heap.size := fun x hx => hW'.lt x hx
  simp only [List.mem_append] at hlt
  refine (Go.Vs.Tryd.calls_of (vs := [v0, v1, v2, v3, v4]) (r := .bool true) enters3 ?_ hv hsim (concs_cons.2 ⟨_, _, C0 _ 0 rfl, concs_cons.2 ⟨_, _, C1 _ 1 rfl, concs_cons.2 ⟨_, _, C2 _ 2 rfl, concs_cons.2 ⟨_, _, C3 _ 3 rfl, concs_cons.2 ⟨_, _, C4 _ 4 rfl, rfl, rfl⟩, rfl⟩, rfl⟩, rfl⟩, rfl⟩) (fun _ => rfl)).mono fun e W' ⟨he, hb⟩ => ?_
  · intro x hx
    simp only [List.mem_cons, List.not_mem_nil, or_false] at hx
    rcases hx with rfl | rfl | rfl | rfl | rfl <;> first | exact Go.Vs.Tryd.wrB_ivb .. | exact wrB_bvb ..
  subst he
  have go : ∀ {t v d ps} (h : DataW.Trod enc Tryd.prog W 0 (fun _ => true) true t v d ps), (Tryd.prog.readableRec t = true) → (t < Tryd.prog.types.size) → (∀ x ∈ ps, x.block < W.heap.size) → DataW.Trod enc Tryd.prog W' 0 (fun b => decide (b < W.heap.size)) true t v d ps := fun h h1 h2 h3 => Below.trod (show laidOutB Tryd.prog = true by kernel_rfl) h1 h2 h hb h3
  exact ⟨_, rfl, _, _, _, [], _, [], hW', trodAll_mk1 (shut_bool Tryd.underlying4 _),
    trodAll_cons_mk (go ⟨f0, g0'⟩ (by kernel_rfl) (of_decide_eq_true (by kernel_rfl)) fun x hx => hlt x (.inl hx))
      (trodAll_cons_mk (go ⟨f1, g1'⟩ (by kernel_rfl) (of_decide_eq_true (by kernel_rfl)) fun x hx => hlt x (.inr (.inl hx)))
        (trodAll_cons_mk (go ⟨f2, g2'⟩ (by kernel_rfl) (of_decide_eq_true (by kernel_rfl)) fun x hx => hlt x (.inr (.inr (.inl hx))))
          (trodAll_cons_mk (go ⟨f3, g3'⟩ (by kernel_rfl) (of_decide_eq_true (by kernel_rfl)) fun x hx => hlt x (.inr (.inr (.inr (.inl hx)))))
            (trodAll_mk1 (go ⟨f4, g4'⟩ (by kernel_rfl) (of_decide_eq_true (by kernel_rfl)) fun x hx => hlt x (.inr (.inr (.inr (.inr hx))))))))), rfl, hb.frame _, fun h => by cases h⟩
noncomputable def laidWorld (os : Os) : World := World.laidAll Tryd.prog os Rows.arithCodesUptoRow.laid
def wArgs : Array Value := #[.slice none 0 0, .slice none 0 0, .slice none 0 0, .slice none 0 0, .slice none 0 0]
theorem laid_met (os : Os) : laidMetH Tryd.prog Rows.arithCodesUptoRow.laid ((laidWorld os).forCall (fun _ _ => 0) ⟨#[], wArgs, []⟩).memory := by
  rw [MakeChecks.laidMetH_plain _ _ _ (by kernel_rfl)]
  exact laidMet_laidAll _ (by kernel_rfl) (by kernel_rfl)
theorem reads (os : Os) {H : Type} (enc : TypeId × Value → H) : ∃ places, DataW.whole enc Tryd.prog ((laidWorld os).forCall (fun _ _ => 0) ⟨#[], wArgs, []⟩).memory Tryd.f3.params.toList Rows.arithCodesSpec.vars false wArgs.toList 8 = some ([.nil, .nil, .nil, .nil, .nil], [], places) :=
  ⟨[], by kernel_rfl⟩
theorem lifted (os : Os) (started : os.Started) (H : Type) (enc : TypeId × Value → H) (F : Stop.Interp) :
    ReturnsInHanded {} Tryd.checked os 3 .any ((Rows.OpenSpec.upto Rows.arithCodesSpec).preRow enc Tryd.prog Tryd.f3 Rows.arithCodesUptoRow.domain false Rows.arithCodesUptoRow.laid) (((Rows.OpenSpec.upto Rows.arithCodesSpec).at F).post enc Tryd.prog Tryd.f3 false true false false) := by
  obtain ⟨places, hx⟩ := reads os enc
  refine returnsInHanded_of_row (C := Tryd.checked) (s := Rows.OpenSpec.upto Rows.arithCodesSpec) own started (by kernel_rfl) Tryd.func3 ?_ ?_
  · refine ⟨laidWorld os, fun _ _ => 0, ⟨#[], wArgs, []⟩, World.laidAll_os _ _ _, World.shaped_of_ZipB (by kernel_rfl) (by kernel_rfl), ?_, ?_, OpenSpec.preRow_of_cond 8 hx (by kernel_rfl) (fun k hk => by cases hk; kernel_rfl) (by kernel_rfl) (laid_met os), ?_⟩
    · exact (Input.okWide_of_okWideB (base := 0) (show Input.okWideB Tryd.prog ((laidWorld os).forCall (fun _ _ => 0) ⟨#[], wArgs, []⟩) 3 ⟨#[], wArgs, []⟩ = true by kernel_rfl)).1
    · exact (Input.okWide_of_okWideB (show Input.okWideB Tryd.prog ((laidWorld os).forCall (fun _ _ => 0) ⟨#[], wArgs, []⟩) 3 ⟨#[], wArgs, []⟩ = true by kernel_rfl)).2
    · simp only [Assume.holds]
      exact ⟨by simp, by simp, by simp, by simp, by simp⟩
  intro W base args ds gs before hval hW _ hcond _ hL _ _
  exact contract H enc W base args ds gs before hval hW hL (hcond _ rfl)
theorem saidUpto : Rows.ArithCodesUptoSaid :=
  OpenClaim.holds_of_cond 3 Tryd.f3 rfl rfl rfl rfl rfl rfl rfl ⟨rfl, rfl, rfl, rfl, rfl⟩ rfl rfl rfl rfl rfl (by kernel_rfl) Tryd.func3 (by kernel_rfl)
    (of_decide_eq_true (by kernel_rfl)) (by unfold Func.isWrapper; first | (rw [if_pos (by decide +kernel)]; kernel_rfl) | (rw [if_neg (by decide +kernel)]; exact ⟨rfl, rfl⟩))
    (fun os started H enc _ F => by rw [OpenClaim.pre_eq_preRow]; exact lifted os started H enc F)
theorem plain (f : FuncId) (fn : Func) (hf : Tryd.pinned.checked.prog.funcNamed "veil/veillaw21.ArithCodes" = some f) (hfn : Tryd.pinned.checked.prog.funcs[f]? = some fn) :
    false = Tryd.pinned.checked.prog.looks [] ∧ ∀ (j : Nat) t, fn.params[j]? = some t → Tryd.pinned.checked.prog.wantsStandIn t = false := by
  obtain rfl : f = 3 := Option.some.inj ((show Tryd.prog.funcNamed "veil/veillaw21.ArithCodes" = some 3 by kernel_rfl).symm.trans hf) |>.symm
  obtain rfl : fn = Tryd.f3 := (Option.some.inj (Tryd.func3.symm.trans hfn)).symm
  refine ⟨by kernel_rfl, fun j t ht => ?_⟩
  rw [Tryd.params3] at ht
  have hm : t ∈ [22, 22, 22, 22, 23] := by simpa using Array.mem_of_getElem? ht
  have hall : ([22, 22, 22, 22, 23].all fun u => !Tryd.prog.wantsStandIn u) = true := by kernel_rfl
  exact (show Tryd.prog.wantsStandIn t = false by simpa using List.all_eq_true.1 hall t hm)
theorem card_holds : Rows.ArithCodesUptoCardSaid :=
  Claim7.holds_tied_plain_at .later [] _ _ _ _ saidUpto (fun _ h => by cases h) (by kernel_rfl) (fun _ h => by cases h) arithCodesUpto_row_tie rfl ⟨rfl, rfl⟩ (by kernel_rfl) rfl plain (by kernel_rfl)
end Go.Proofs.YthjchgboecjekaaDoor
