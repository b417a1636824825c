/- R8: what the functions of the program answer, over the machine of plain values. -/
import Derived.Test.YtaalannjlomiiaaDoorR7
set_option linter.unusedVariables false
set_option linter.unusedSimpArgs false
namespace Go.Vs.Tryd
open Go.Proofs
variable {G : Nat → List V}
set_option linter.unusedSimpArgs false
attribute [local go_sem] List.length_append List.all_append ge_iff_le gt_iff_lt Int.natCast_nonneg Int.toNat_natCast Nat.mul_one b_and_ll b_shr_ll b_mul_ll b_add_ll b_or_ll b_shl_ll pick_ll pick_lc pick_bb driveS stopV drive stepV exo expo evs fillV isNil nilKind eqV eqL optA optM sliceAtV ev kn ldc stc splice appV srcV lenV setd wantV exitV rvs rv one List.length_cons List.length_nil List.cons_append List.nil_append List.append_nil List.replicate List.getD_cons_zero List.getD_cons_succ List.set_cons_zero List.set_cons_succ List.getElem?_cons_zero List.getElem?_cons_succ List.getElem?_nil List.take_succ_cons List.take_zero List.take_nil List.drop_succ_cons List.drop_zero List.drop_nil List.all_cons List.all_nil List.any_cons List.any_nil Bool.and_true Bool.true_and Bool.and_self Option.map_some Option.map_none Option.bind_some Option.some.injEq Nat.add_zero Nat.zero_add Int.toNat_zero Int.toNat_one Int.zero_add Int.add_zero if_true if_false ite_true ite_false and_true true_and and_self ne_eq not_false_eq_true not_true_eq_false decide_true decide_false Bool.false_eq_true Bool.not_true Bool.not_false beq_self_eq_true BEq.rfl Bool.not_eq_true Nat.le_refl Int.le_refl Nat.zero_le List.foldl List.map_cons List.map_nil Prod.mk.injEq Int.cast_ofNat_Int Int.zero_le_ofNat b_add_cc b_add_cl b_add_lc b_mul_cc b_mul_cl b_mul_lc b_sub_cc b_sub_cl b_sub_lc b_and_cc b_and_cl b_and_lc b_or_cc b_or_cl b_or_lc b_xor_cc b_xor_cl b_xor_lc b_andNot_cc b_andNot_cl b_andNot_lc b_shr_cc b_shr_cl b_shr_lc b_shl_cc b_shl_cl b_shl_lc b_lss b_leq b_gtr b_geq b_add_i b_sub_i b_mul_i beq_cc beq_cl beq_lc beq_ll b_quo_i b_rem_i neg_u64 wrap_i64 driveD stepD idsAt idOf maskH_nil restore_nil restore_mask List.filterMap_nil List.filterMap_cons VOp.looks VOp.makes exA cells_agg cells_int cells_bool cells_str cells_nilp cells_ptr cells_glob cells_nils cells_sl cells_nilf cells_fn cells_nili cells_ifc known_agg known_tup known_int known_bool known_str known_nilp known_ptr known_glob known_nils known_sl known_nilf known_fn known_nili known_ifc known_unk one_agg one_tup one_int one_bool one_str one_nilp one_ptr one_glob one_nils one_sl one_nilf one_fn one_nili one_ifc asK_int asN_int asB_bool asS_str asG_agg asT_tup
attribute [local go_sem ↓] lc_len lc_take lc_drop lc_known lc_one lc_rens lc_cells lw_known lw_agg lw_asG
attribute [local go_sem] lt_nat lt_natl lt_lnat lt_ll
set_option maxRecDepth 100000
set_option maxHeartbeats 1000000

theorem cancel2 {p q : Nat} (h : 2 * p % ell = 2 * q % ell) : p % ell = q % ell := by
  have e : 3618502788666131106986593281521497120428558179689953803000975469142727125495 * 2 % ell = 1 := by decide
  have k : ∀ z, z % ell = 3618502788666131106986593281521497120428558179689953803000975469142727125495 * (2 * z) % ell := fun z => by
    rw [← Nat.mul_assoc, Nat.mul_mod, e, Nat.one_mul, Nat.mod_mod]
  rw [k p, k q, Nat.mul_mod, h, ← Nat.mul_mod]

structure Good (a U W X Y : Nat) : Prop where
  u0 : 0 < U
  w0 : 0 < W
  u1 : U < ell
  w1 : W ≤ ell
  x1 : X < ell
  y1 : Y < ell
  co : Nat.gcd U W = 1
  ux : a * X % ell = U % ell
  wy : a * Y % ell = W % ell

theorem half_rel {a U X H1 H2 : Nat} (h1 : 2 * H1 = U) (h2 : X % 2 = 0 → 2 * H2 = X) (h3 : X % 2 = 1 → 2 * H2 = X + ell) (h : a * X % ell = U % ell) : a * H2 % ell = H1 % ell := by
  apply cancel2
  have e : 2 * (a * H2) % ell = a * X % ell := by
    rw [Nat.mul_left_comm]
    rcases Nat.mod_two_eq_zero_or_one X with hx | hx
    · rw [h2 hx]
    · rw [h3 hx, Nat.mul_add, Nat.mul_comm a ell, Nat.add_mul_mod_self_left]
  rw [e, h1, h]

theorem Good.halfU {a U W X Y H1 H2 : Nat} (g : Good a U W X Y) (h1 : 2 * H1 = U) (hH : H2 < ell) (h2 : X % 2 = 0 → 2 * H2 = X) (h3 : X % 2 = 1 → 2 * H2 = X + ell) : Good a H1 W H2 Y where
  u0 := by have := g.u0; omega
  w0 := g.w0
  u1 := by have := g.u1; omega
  w1 := g.w1
  x1 := hH
  y1 := g.y1
  co := Nat.Coprime.coprime_dvd_left ⟨2, by omega⟩ g.co
  ux := half_rel h1 h2 h3 g.ux
  wy := g.wy
theorem Good.halfW {a U W X Y H1 H2 : Nat} (g : Good a U W X Y) (h1 : 2 * H1 = W) (hH : H2 < ell) (h2 : Y % 2 = 0 → 2 * H2 = Y) (h3 : Y % 2 = 1 → 2 * H2 = Y + ell) : Good a U H1 X H2 where
  u0 := g.u0
  w0 := by have := g.w0; omega
  u1 := g.u1
  w1 := by have := g.w1; omega
  x1 := g.x1
  y1 := hH
  co := Nat.Coprime.coprime_dvd_right ⟨2, by omega⟩ g.co
  ux := g.ux
  wy := half_rel h1 h2 h3 g.wy

theorem sub_rel {a U W D X Y : Nat} (hD : W = U + D) (hX : X ≤ ell) (h1 : a * X % ell = U % ell) (h2 : a * Y % ell = W % ell) : a * ((Y + (ell - X)) % ell) % ell = D % ell := by
  rw [mmod']
  have e : (a * (Y + (ell - X)) + U) % ell = (D + U) % ell := by
    rw [Nat.add_mod, ← h1, ← Nat.add_mod, ← Nat.mul_add, show Y + (ell - X) + X = Y + ell by omega, Nat.mul_add, Nat.mul_comm a ell, Nat.add_mul_mod_self_left, h2, hD, Nat.add_comm]
  obtain ⟨c, hc⟩ : ∃ c, (U + c) % ell = 0 := ⟨ell - U % ell, by
    have hm := mod_lt' U
    rw [← Nat.mod_add_mod, Nat.add_sub_cancel' (Nat.le_of_lt hm), Nat.mod_self]⟩
  have k : ∀ z, z % ell = (z + U + c) % ell := fun z => by rw [Nat.add_assoc, Nat.add_mod, hc, Nat.add_zero, Nat.mod_mod]
  rw [k, k D, Nat.add_mod, e, ← Nat.add_mod]

theorem Good.subW {a U W X Y D : Nat} (g : Good a U W X Y) (hD : W = U + D) (h0 : 0 < D) : Good a U D X ((Y + (ell - X)) % ell) where
  u0 := g.u0
  w0 := h0
  u1 := g.u1
  w1 := by have := g.w1; omega
  x1 := g.x1
  y1 := mod_lt' _
  co := by
    have := g.co
    rw [hD, Nat.gcd_self_add_right] at this
    exact this
  ux := g.ux
  wy := sub_rel hD (Nat.le_of_lt g.x1) g.ux g.wy
theorem Good.subU {a U W X Y D : Nat} (g : Good a U W X Y) (hD : U = W + D) (h0 : 0 < D) : Good a D W ((X + (ell - Y)) % ell) Y where
  u0 := h0
  w0 := g.w0
  u1 := by have := g.u1; omega
  w1 := g.w1
  x1 := mod_lt' _
  y1 := g.y1
  co := by
    have := g.co
    rw [hD, Nat.gcd_comm, Nat.gcd_self_add_right, Nat.gcd_comm] at this
    exact this
  ux := sub_rel hD (Nat.le_of_lt g.y1) g.wy g.ux
  wy := g.wy

def gt : List V := [.unk, .unk, .ptr 1 0, .ptr 2 0, .ptr 3 0, .ptr 4 0, .ptr 5 0, .ptr 6 0] ++ List.replicate 58 .unk
def gh (U W X Y : Nat) : Heap := [none, some ⟨.rw, lc 0⟩, some ⟨.rw, lc U⟩, some ⟨.rw, lc W⟩, some ⟨.rw, lc X⟩, some ⟨.rw, lc Y⟩, some ⟨.rw, lc 1⟩]

theorem lc_first (A : Nat) : List.take 1 (lc A) = [.int .u64 ((A % 18446744073709551616 : Nat) : Int)] := rfl
theorem and_par (A : Nat) : a64 (A % 18446744073709551616) 1 = A % 2 := by rw [and_one]; omega

theorem inv_u (a W Y : Nat) {Q : V → Heap → Prop} {K : List TI} : ∀ (N U X : Nat), U ≤ N → Good a U W X Y →
    (∀ U' X', Good a U' W X' Y → U' % 2 = 1 → U' ≤ U → (U % 2 = 1 → U' = U) → Run Tryd.prog G 17 0 Q (K, ⟨gt, gh U' W X' Y⟩)) → Run Tryd.prog G 17 0 Q (.l v17_13 :: .b 2 :: K, ⟨gt, gh U W X Y⟩)
  | 0, U, X, hN, g, _ => by have := g.u0; omega
  | N + 1, U, X, hN, g, hK => by
    have g1 := lc_first U
    have g2 := and_par U
    have hu := g.u0
    unfold gt gh
    by_cases hp : U % 2 = 0
    · have hd : decide (U % 2 = 0) = true := decide_eq_true hp
      refine run_loop_eq v17_13.eq_1 ?_
      refine run_driveS 80 ?_
      simp only [go_sem, Nat.reduceAdd, Nat.reduceSub, Nat.reduceLeDiff, Nat.reduceMul, Nat.reduceLT, Nat.reduceEqDiff, Int.reduceLT, Int.reduceLE, Int.reduceAdd, Int.reduceSub, Int.reduceMul, Int.reduceToNat, reduceIte, reduceCtorEq, Nat.reduceBEq, v17_9, v17_12, v17_10, g1, g2, hd]
      refine run_call' rfl ?_
      simp only [go_sem, Nat.reduceAdd, Nat.reduceSub, Nat.reduceLeDiff, Nat.reduceMul, Nat.reduceLT, Nat.reduceEqDiff, Int.reduceLT, Int.reduceLE, Int.reduceAdd, Int.reduceSub, Int.reduceMul, Int.reduceToNat, reduceIte, reduceCtorEq, Nat.reduceBEq, calV]
      refine ref_half U g.u1 fun H1 hH1 e1 _ => ?_
      refine run_driveS 80 ?_
      simp only [go_sem, Nat.reduceAdd, Nat.reduceSub, Nat.reduceLeDiff, Nat.reduceMul, Nat.reduceLT, Nat.reduceEqDiff, Int.reduceLT, Int.reduceLE, Int.reduceAdd, Int.reduceSub, Int.reduceMul, Int.reduceToNat, reduceIte, reduceCtorEq, Nat.reduceBEq, v17_11]
      refine run_call' rfl ?_
      simp only [go_sem, Nat.reduceAdd, Nat.reduceSub, Nat.reduceLeDiff, Nat.reduceMul, Nat.reduceLT, Nat.reduceEqDiff, Int.reduceLT, Int.reduceLE, Int.reduceAdd, Int.reduceSub, Int.reduceMul, Int.reduceToNat, reduceIte, reduceCtorEq, Nat.reduceBEq, calV]
      refine ref_half X g.x1 fun H2 hH2 e2 e3 => ?_
      refine run_driveS 80 ?_
      simp only [go_sem, Nat.reduceAdd, Nat.reduceSub, Nat.reduceLeDiff, Nat.reduceMul, Nat.reduceLT, Nat.reduceEqDiff, Int.reduceLT, Int.reduceLE, Int.reduceAdd, Int.reduceSub, Int.reduceMul, Int.reduceToNat, reduceIte, reduceCtorEq, Nat.reduceBEq]
      have g' := g.halfU (e1 hp) hH2 e2 e3
      have e1 := e1 hp
      refine run_rename [0, 1, 2, 3, 4, 5, 6] rfl (by simp) ?_ ?_ ?_ (inv_u a W Y N H1 H2 (by omega) g' fun U' X' k1 k2 k3 k4 => hK U' X' k1 k2 (by omega) (fun k => by omega))
      · unfold gh
        simp only [go_sem, Nat.reduceAdd, Nat.reduceSub, Nat.reduceLeDiff, Nat.reduceMul, Nat.reduceLT, Nat.reduceEqDiff, Int.reduceLT, Int.reduceLE, Int.reduceAdd, Int.reduceSub, Int.reduceMul, Int.reduceToNat, reduceIte, reduceCtorEq, Nat.reduceBEq, hfit, lc_fit, scs_fit, fit, ren, gmap, lw_plain, true_or, or_true]
      · simp [uniq, gh, wrB]
      · unfold gt
        simp only [go_sem, Nat.reduceAdd, Nat.reduceSub, Nat.reduceLeDiff, Nat.reduceMul, Nat.reduceLT, Nat.reduceEqDiff, Int.reduceLT, Int.reduceLE, Int.reduceAdd, Int.reduceSub, Int.reduceMul, Int.reduceToNat, reduceIte, reduceCtorEq, Nat.reduceBEq, hfit, lc_fit, scs_fit, fit, ren, gmap, lw_plain, true_or, or_true]
    · have hd : decide (U % 2 = 0) = false := decide_eq_false hp
      refine run_loop_eq v17_13.eq_1 ?_
      refine run_driveS 80 ?_
      simp only [go_sem, Nat.reduceAdd, Nat.reduceSub, Nat.reduceLeDiff, Nat.reduceMul, Nat.reduceLT, Nat.reduceEqDiff, Int.reduceLT, Int.reduceLE, Int.reduceAdd, Int.reduceSub, Int.reduceMul, Int.reduceToNat, reduceIte, reduceCtorEq, Nat.reduceBEq, v17_9, g1, g2, hd]
      refine run_exit rfl ?_
      refine run_rename [0, 1, 2, 3, 4, 5, 6] rfl (by simp) ?_ ?_ ?_ (hK U X g (by omega) (Nat.le_refl _) (fun _ => rfl))
      · unfold gh
        simp only [go_sem, Nat.reduceAdd, Nat.reduceSub, Nat.reduceLeDiff, Nat.reduceMul, Nat.reduceLT, Nat.reduceEqDiff, Int.reduceLT, Int.reduceLE, Int.reduceAdd, Int.reduceSub, Int.reduceMul, Int.reduceToNat, reduceIte, reduceCtorEq, Nat.reduceBEq, hfit, lc_fit, scs_fit, fit, ren, gmap, lw_plain, true_or, or_true]
      · simp [uniq, gh, wrB]
      · unfold gt
        simp only [go_sem, Nat.reduceAdd, Nat.reduceSub, Nat.reduceLeDiff, Nat.reduceMul, Nat.reduceLT, Nat.reduceEqDiff, Int.reduceLT, Int.reduceLE, Int.reduceAdd, Int.reduceSub, Int.reduceMul, Int.reduceToNat, reduceIte, reduceCtorEq, Nat.reduceBEq, hfit, lc_fit, scs_fit, fit, ren, gmap, lw_plain, true_or, or_true]

theorem inv_w (a U X : Nat) {Q : V → Heap → Prop} {K : List TI} : ∀ (N W Y : Nat), W ≤ N → Good a U W X Y →
    (∀ W' Y', Good a U W' X Y' → W' % 2 = 1 → W' ≤ W → (W % 2 = 1 → W' = W) → Run Tryd.prog G 17 0 Q (K, ⟨gt, gh U W' X Y'⟩)) → Run Tryd.prog G 17 0 Q (.l v17_19 :: .b 4 :: K, ⟨gt, gh U W X Y⟩)
  | 0, W, Y, hN, g, _ => by have := g.w0; omega
  | N + 1, W, Y, hN, g, hK => by
    have g1 := lc_first W
    have g2 := and_par W
    have hu := g.w0
    have hw1 := g.w1
    have hodd : ell % 2 = 1 := by decide
    unfold gt gh
    by_cases hp : W % 2 = 0
    · have hd : decide (W % 2 = 0) = true := decide_eq_true hp
      refine run_loop_eq v17_19.eq_1 ?_
      refine run_driveS 80 ?_
      simp only [go_sem, Nat.reduceAdd, Nat.reduceSub, Nat.reduceLeDiff, Nat.reduceMul, Nat.reduceLT, Nat.reduceEqDiff, Int.reduceLT, Int.reduceLE, Int.reduceAdd, Int.reduceSub, Int.reduceMul, Int.reduceToNat, reduceIte, reduceCtorEq, Nat.reduceBEq, v17_15, v17_18, v17_16, g1, g2, hd]
      refine run_call' rfl ?_
      simp only [go_sem, Nat.reduceAdd, Nat.reduceSub, Nat.reduceLeDiff, Nat.reduceMul, Nat.reduceLT, Nat.reduceEqDiff, Int.reduceLT, Int.reduceLE, Int.reduceAdd, Int.reduceSub, Int.reduceMul, Int.reduceToNat, reduceIte, reduceCtorEq, Nat.reduceBEq, calV]
      refine ref_half W (by omega) fun H1 hH1 e1 _ => ?_
      refine run_driveS 80 ?_
      simp only [go_sem, Nat.reduceAdd, Nat.reduceSub, Nat.reduceLeDiff, Nat.reduceMul, Nat.reduceLT, Nat.reduceEqDiff, Int.reduceLT, Int.reduceLE, Int.reduceAdd, Int.reduceSub, Int.reduceMul, Int.reduceToNat, reduceIte, reduceCtorEq, Nat.reduceBEq, v17_17]
      refine run_call' rfl ?_
      simp only [go_sem, Nat.reduceAdd, Nat.reduceSub, Nat.reduceLeDiff, Nat.reduceMul, Nat.reduceLT, Nat.reduceEqDiff, Int.reduceLT, Int.reduceLE, Int.reduceAdd, Int.reduceSub, Int.reduceMul, Int.reduceToNat, reduceIte, reduceCtorEq, Nat.reduceBEq, calV]
      refine ref_half Y g.y1 fun H2 hH2 e2 e3 => ?_
      refine run_driveS 80 ?_
      simp only [go_sem, Nat.reduceAdd, Nat.reduceSub, Nat.reduceLeDiff, Nat.reduceMul, Nat.reduceLT, Nat.reduceEqDiff, Int.reduceLT, Int.reduceLE, Int.reduceAdd, Int.reduceSub, Int.reduceMul, Int.reduceToNat, reduceIte, reduceCtorEq, Nat.reduceBEq]
      have g' := g.halfW (e1 hp) hH2 e2 e3
      have e1 := e1 hp
      refine run_rename [0, 1, 2, 3, 4, 5, 6] rfl (by simp) ?_ ?_ ?_ (inv_w a U X N H1 H2 (by omega) g' fun U' X' k1 k2 k3 k4 => hK U' X' k1 k2 (by omega) (fun k => by omega))
      · unfold gh
        simp only [go_sem, Nat.reduceAdd, Nat.reduceSub, Nat.reduceLeDiff, Nat.reduceMul, Nat.reduceLT, Nat.reduceEqDiff, Int.reduceLT, Int.reduceLE, Int.reduceAdd, Int.reduceSub, Int.reduceMul, Int.reduceToNat, reduceIte, reduceCtorEq, Nat.reduceBEq, hfit, lc_fit, scs_fit, fit, ren, gmap, lw_plain, true_or, or_true]
      · simp [uniq, gh, wrB]
      · unfold gt
        simp only [go_sem, Nat.reduceAdd, Nat.reduceSub, Nat.reduceLeDiff, Nat.reduceMul, Nat.reduceLT, Nat.reduceEqDiff, Int.reduceLT, Int.reduceLE, Int.reduceAdd, Int.reduceSub, Int.reduceMul, Int.reduceToNat, reduceIte, reduceCtorEq, Nat.reduceBEq, hfit, lc_fit, scs_fit, fit, ren, gmap, lw_plain, true_or, or_true]
    · have hd : decide (W % 2 = 0) = false := decide_eq_false hp
      refine run_loop_eq v17_19.eq_1 ?_
      refine run_driveS 80 ?_
      simp only [go_sem, Nat.reduceAdd, Nat.reduceSub, Nat.reduceLeDiff, Nat.reduceMul, Nat.reduceLT, Nat.reduceEqDiff, Int.reduceLT, Int.reduceLE, Int.reduceAdd, Int.reduceSub, Int.reduceMul, Int.reduceToNat, reduceIte, reduceCtorEq, Nat.reduceBEq, v17_15, g1, g2, hd]
      refine run_exit rfl ?_
      refine run_rename [0, 1, 2, 3, 4, 5, 6] rfl (by simp) ?_ ?_ ?_ (hK W Y g (by omega) (Nat.le_refl _) (fun _ => rfl))
      · unfold gh
        simp only [go_sem, Nat.reduceAdd, Nat.reduceSub, Nat.reduceLeDiff, Nat.reduceMul, Nat.reduceLT, Nat.reduceEqDiff, Int.reduceLT, Int.reduceLE, Int.reduceAdd, Int.reduceSub, Int.reduceMul, Int.reduceToNat, reduceIte, reduceCtorEq, Nat.reduceBEq, hfit, lc_fit, scs_fit, fit, ren, gmap, lw_plain, true_or, or_true]
      · simp [uniq, gh, wrB]
      · unfold gt
        simp only [go_sem, Nat.reduceAdd, Nat.reduceSub, Nat.reduceLeDiff, Nat.reduceMul, Nat.reduceLT, Nat.reduceEqDiff, Int.reduceLT, Int.reduceLE, Int.reduceAdd, Int.reduceSub, Int.reduceMul, Int.reduceToNat, reduceIte, reduceCtorEq, Nat.reduceBEq, hfit, lc_fit, scs_fit, fit, ren, gmap, lw_plain, true_or, or_true]
end Go.Vs.Tryd
namespace Go.Vs.Tryd
open Go.Proofs
variable {G : Nat → List V}
set_option linter.unusedSimpArgs false
attribute [local go_sem] List.length_append List.all_append ge_iff_le gt_iff_lt Int.natCast_nonneg Int.toNat_natCast Nat.mul_one b_and_ll b_shr_ll b_mul_ll b_add_ll b_or_ll b_shl_ll pick_ll pick_lc pick_bb driveS stopV drive stepV exo expo evs fillV isNil nilKind eqV eqL optA optM sliceAtV ev kn ldc stc splice appV srcV lenV setd wantV exitV rvs rv one List.length_cons List.length_nil List.cons_append List.nil_append List.append_nil List.replicate List.getD_cons_zero List.getD_cons_succ List.set_cons_zero List.set_cons_succ List.getElem?_cons_zero List.getElem?_cons_succ List.getElem?_nil List.take_succ_cons List.take_zero List.take_nil List.drop_succ_cons List.drop_zero List.drop_nil List.all_cons List.all_nil List.any_cons List.any_nil Bool.and_true Bool.true_and Bool.and_self Option.map_some Option.map_none Option.bind_some Option.some.injEq Nat.add_zero Nat.zero_add Int.toNat_zero Int.toNat_one Int.zero_add Int.add_zero if_true if_false ite_true ite_false and_true true_and and_self ne_eq not_false_eq_true not_true_eq_false decide_true decide_false Bool.false_eq_true Bool.not_true Bool.not_false beq_self_eq_true BEq.rfl Bool.not_eq_true Nat.le_refl Int.le_refl Nat.zero_le List.foldl List.map_cons List.map_nil Prod.mk.injEq Int.cast_ofNat_Int Int.zero_le_ofNat b_add_cc b_add_cl b_add_lc b_mul_cc b_mul_cl b_mul_lc b_sub_cc b_sub_cl b_sub_lc b_and_cc b_and_cl b_and_lc b_or_cc b_or_cl b_or_lc b_xor_cc b_xor_cl b_xor_lc b_andNot_cc b_andNot_cl b_andNot_lc b_shr_cc b_shr_cl b_shr_lc b_shl_cc b_shl_cl b_shl_lc b_lss b_leq b_gtr b_geq b_add_i b_sub_i b_mul_i beq_cc beq_cl beq_lc beq_ll b_quo_i b_rem_i neg_u64 wrap_i64 driveD stepD idsAt idOf maskH_nil restore_nil restore_mask List.filterMap_nil List.filterMap_cons VOp.looks VOp.makes exA cells_agg cells_int cells_bool cells_str cells_nilp cells_ptr cells_glob cells_nils cells_sl cells_nilf cells_fn cells_nili cells_ifc known_agg known_tup known_int known_bool known_str known_nilp known_ptr known_glob known_nils known_sl known_nilf known_fn known_nili known_ifc known_unk one_agg one_tup one_int one_bool one_str one_nilp one_ptr one_glob one_nils one_sl one_nilf one_fn one_nili one_ifc asK_int asN_int asB_bool asS_str asG_agg asT_tup
attribute [local go_sem ↓] lc_len lc_take lc_drop lc_known lc_one lc_rens lc_cells lw_known lw_agg lw_asG
attribute [local go_sem] lt_nat lt_natl lt_lnat lt_ll
set_option maxRecDepth 100000
set_option maxHeartbeats 1000000

theorem one_lt : 1 < 115792089237316195423570985008687907853269984665640564039457584007913129639936 := by decide
theorem inv_out (a : Nat) {Q : V → Heap → Prop} {K : List TI}
    (hK : ∀ U W X Y, Good a U W X Y → (U = 1 ∨ W = 1) → Run Tryd.prog G 17 0 Q (K, ⟨gt, gh U W X Y⟩)) : ∀ N U W X Y, U + W ≤ N → Good a U W X Y → Run Tryd.prog G 17 0 Q (.l v17_27 :: .b 0 :: K, ⟨gt, gh U W X Y⟩)
  | 0, U, W, X, Y, hN, g => by have := g.u0; omega
  | N + 1, U, W, X, Y, hN, g => by
    have hl := ell_lt
    have hu := g.u1
    have hw := g.w1
    have q1 := lc_eqL (A := U) (B := 1) (by omega) one_lt
    have q2 := lc_eqL (A := W) (B := 1) (by omega) one_lt
    unfold gt gh
    by_cases hU : U = 1
    · have hd : decide (U = 1) = true := decide_eq_true hU
      refine run_loop_eq v17_27.eq_1 ?_
      refine run_driveS 80 ?_
      simp only [go_sem, Nat.reduceAdd, Nat.reduceSub, Nat.reduceLeDiff, Nat.reduceMul, Nat.reduceLT, Nat.reduceEqDiff, Int.reduceLT, Int.reduceLE, Int.reduceAdd, Int.reduceSub, Int.reduceMul, Int.reduceToNat, reduceIte, reduceCtorEq, Nat.reduceBEq, v17_8, q1, hd]
      refine run_exit rfl ?_
      refine run_rename [0, 1, 2, 3, 4, 5, 6] rfl (by simp) ?_ ?_ ?_ (hK U W X Y g (.inl hU))
      · unfold gh
        simp only [go_sem, Nat.reduceAdd, Nat.reduceSub, Nat.reduceLeDiff, Nat.reduceMul, Nat.reduceLT, Nat.reduceEqDiff, Int.reduceLT, Int.reduceLE, Int.reduceAdd, Int.reduceSub, Int.reduceMul, Int.reduceToNat, reduceIte, reduceCtorEq, Nat.reduceBEq, hfit, lc_fit, scs_fit, fit, ren, gmap, lw_plain, true_or, or_true]
      · simp [uniq, gh, wrB]
      · unfold gt
        simp only [go_sem, Nat.reduceAdd, Nat.reduceSub, Nat.reduceLeDiff, Nat.reduceMul, Nat.reduceLT, Nat.reduceEqDiff, Int.reduceLT, Int.reduceLE, Int.reduceAdd, Int.reduceSub, Int.reduceMul, Int.reduceToNat, reduceIte, reduceCtorEq, Nat.reduceBEq, hfit, lc_fit, scs_fit, fit, ren, gmap, lw_plain, true_or, or_true]
    · have hd : decide (U = 1) = false := decide_eq_false hU
      by_cases hW : W = 1
      · have hd2 : decide (W = 1) = true := decide_eq_true hW
        refine run_loop_eq v17_27.eq_1 ?_
        refine run_driveS 80 ?_
        simp only [go_sem, Nat.reduceAdd, Nat.reduceSub, Nat.reduceLeDiff, Nat.reduceMul, Nat.reduceLT, Nat.reduceEqDiff, Int.reduceLT, Int.reduceLE, Int.reduceAdd, Int.reduceSub, Int.reduceMul, Int.reduceToNat, reduceIte, reduceCtorEq, Nat.reduceBEq, v17_8, q1, hd, q2, hd2]
        refine run_exit rfl ?_
        refine run_rename [0, 1, 2, 3, 4, 5, 6] rfl (by simp) ?_ ?_ ?_ (hK U W X Y g (.inr hW))
        · unfold gh
          simp only [go_sem, Nat.reduceAdd, Nat.reduceSub, Nat.reduceLeDiff, Nat.reduceMul, Nat.reduceLT, Nat.reduceEqDiff, Int.reduceLT, Int.reduceLE, Int.reduceAdd, Int.reduceSub, Int.reduceMul, Int.reduceToNat, reduceIte, reduceCtorEq, Nat.reduceBEq, hfit, lc_fit, scs_fit, fit, ren, gmap, lw_plain, true_or, or_true]
        · simp [uniq, gh, wrB]
        · unfold gt
          simp only [go_sem, Nat.reduceAdd, Nat.reduceSub, Nat.reduceLeDiff, Nat.reduceMul, Nat.reduceLT, Nat.reduceEqDiff, Int.reduceLT, Int.reduceLE, Int.reduceAdd, Int.reduceSub, Int.reduceMul, Int.reduceToNat, reduceIte, reduceCtorEq, Nat.reduceBEq, hfit, lc_fit, scs_fit, fit, ren, gmap, lw_plain, true_or, or_true]
      · have hd2 : decide (W = 1) = false := decide_eq_false hW
        refine run_loop_eq v17_27.eq_1 ?_
        refine run_driveS 80 ?_
        simp only [go_sem, Nat.reduceAdd, Nat.reduceSub, Nat.reduceLeDiff, Nat.reduceMul, Nat.reduceLT, Nat.reduceEqDiff, Int.reduceLT, Int.reduceLE, Int.reduceAdd, Int.reduceSub, Int.reduceMul, Int.reduceToNat, reduceIte, reduceCtorEq, Nat.reduceBEq, v17_8, v17_26, v17_14, q1, hd, q2, hd2]
        refine run_rename [0, 1, 2, 3, 4, 5, 6] rfl (by simp) ?_ ?_ ?_ (inv_u a W Y (K := .c (.seq (.block 4 v17_20) (.seq (.reg v17_21) (.cond (.t 42) (.seq (.reg v17_22) (.reg v17_23)) (.seq (.reg v17_24) (.reg v17_25))))) :: .b 1 :: .l v17_27 :: .b 0 :: K) U U X (Nat.le_refl U) g fun U' X' g' o1 o2 o3 => ?_)
        · unfold gh
          simp only [go_sem, Nat.reduceAdd, Nat.reduceSub, Nat.reduceLeDiff, Nat.reduceMul, Nat.reduceLT, Nat.reduceEqDiff, Int.reduceLT, Int.reduceLE, Int.reduceAdd, Int.reduceSub, Int.reduceMul, Int.reduceToNat, reduceIte, reduceCtorEq, Nat.reduceBEq, hfit, lc_fit, scs_fit, fit, ren, gmap, lw_plain, true_or, or_true]
        · simp [uniq, gh, wrB]
        · unfold gt
          simp only [go_sem, Nat.reduceAdd, Nat.reduceSub, Nat.reduceLeDiff, Nat.reduceMul, Nat.reduceLT, Nat.reduceEqDiff, Int.reduceLT, Int.reduceLE, Int.reduceAdd, Int.reduceSub, Int.reduceMul, Int.reduceToNat, reduceIte, reduceCtorEq, Nat.reduceBEq, hfit, lc_fit, scs_fit, fit, ren, gmap, lw_plain, true_or, or_true]
        · unfold gt gh
          refine run_driveS 80 ?_
          simp only [go_sem, Nat.reduceAdd, Nat.reduceSub, Nat.reduceLeDiff, Nat.reduceMul, Nat.reduceLT, Nat.reduceEqDiff, Int.reduceLT, Int.reduceLE, Int.reduceAdd, Int.reduceSub, Int.reduceMul, Int.reduceToNat, reduceIte, reduceCtorEq, Nat.reduceBEq, v17_20]
          refine run_rename [0, 1, 2, 3, 4, 5, 6] rfl (by simp) ?_ ?_ ?_ (inv_w a U' X' (K := .c (.seq (.reg v17_21) (.cond (.t 42) (.seq (.reg v17_22) (.reg v17_23)) (.seq (.reg v17_24) (.reg v17_25)))) :: .b 1 :: .l v17_27 :: .b 0 :: K) W W Y (Nat.le_refl W) g' fun W' Y' g2 o4 o5 o6 => ?_)
          · unfold gh
            simp only [go_sem, Nat.reduceAdd, Nat.reduceSub, Nat.reduceLeDiff, Nat.reduceMul, Nat.reduceLT, Nat.reduceEqDiff, Int.reduceLT, Int.reduceLE, Int.reduceAdd, Int.reduceSub, Int.reduceMul, Int.reduceToNat, reduceIte, reduceCtorEq, Nat.reduceBEq, hfit, lc_fit, scs_fit, fit, ren, gmap, lw_plain, true_or, or_true]
          · simp [uniq, gh, wrB]
          · unfold gt
            simp only [go_sem, Nat.reduceAdd, Nat.reduceSub, Nat.reduceLeDiff, Nat.reduceMul, Nat.reduceLT, Nat.reduceEqDiff, Int.reduceLT, Int.reduceLE, Int.reduceAdd, Int.reduceSub, Int.reduceMul, Int.reduceToNat, reduceIte, reduceCtorEq, Nat.reduceBEq, hfit, lc_fit, scs_fit, fit, ren, gmap, lw_plain, true_or, or_true]
          · have hu2 := g2.u1
            have hw2 := g2.w1
            have hu0 := g2.u0
            have hw0 := g2.w0
            have hne : U' ≠ W' := by
              intro e
              have c2 := g2.co
              rw [e, Nat.gcd_self] at c2
              have hco := g.co
              rcases Nat.mod_two_eq_zero_or_one U with hU2 | hU2
              · rcases Nat.mod_two_eq_zero_or_one W with hW2 | hW2
                · have : 2 ∣ Nat.gcd U W := Nat.dvd_gcd (Nat.dvd_of_mod_eq_zero hU2) (Nat.dvd_of_mod_eq_zero hW2)
                  rw [hco] at this
                  have := Nat.le_of_dvd (by decide) this
                  omega
                · have := o6 hW2; omega
              · have := o3 hU2; omega
            unfold gt gh
            refine run_driveS 80 ?_
            simp only [go_sem, Nat.reduceAdd, Nat.reduceSub, Nat.reduceLeDiff, Nat.reduceMul, Nat.reduceLT, Nat.reduceEqDiff, Int.reduceLT, Int.reduceLE, Int.reduceAdd, Int.reduceSub, Int.reduceMul, Int.reduceToNat, reduceIte, reduceCtorEq, Nat.reduceBEq, v17_21]
            refine run_call' rfl ?_
            simp only [go_sem, Nat.reduceAdd, Nat.reduceSub, Nat.reduceLeDiff, Nat.reduceMul, Nat.reduceLT, Nat.reduceEqDiff, Int.reduceLT, Int.reduceLE, Int.reduceAdd, Int.reduceSub, Int.reduceMul, Int.reduceToNat, reduceIte, reduceCtorEq, Nat.reduceBEq, calV]
            refine ref_below U' W' (by omega) (by omega) ?_
            refine run_driveS 80 ?_
            simp only [go_sem, Nat.reduceAdd, Nat.reduceSub, Nat.reduceLeDiff, Nat.reduceMul, Nat.reduceLT, Nat.reduceEqDiff, Int.reduceLT, Int.reduceLE, Int.reduceAdd, Int.reduceSub, Int.reduceMul, Int.reduceToNat, reduceIte, reduceCtorEq, Nat.reduceBEq]
            by_cases hlt : U' < W'
            · refine run_cond_t (by simp only [go_sem, Nat.reduceAdd, Nat.reduceSub, Nat.reduceLeDiff, Nat.reduceMul, Nat.reduceLT, Nat.reduceEqDiff, Int.reduceLT, Int.reduceLE, Int.reduceAdd, Int.reduceSub, Int.reduceMul, Int.reduceToNat, reduceIte, reduceCtorEq, Nat.reduceBEq, decide_eq_true hlt]) ?_
              refine run_driveS 80 ?_
              simp only [go_sem, Nat.reduceAdd, Nat.reduceSub, Nat.reduceLeDiff, Nat.reduceMul, Nat.reduceLT, Nat.reduceEqDiff, Int.reduceLT, Int.reduceLE, Int.reduceAdd, Int.reduceSub, Int.reduceMul, Int.reduceToNat, reduceIte, reduceCtorEq, Nat.reduceBEq, v17_22]
              refine run_call' rfl ?_
              simp only [go_sem, Nat.reduceAdd, Nat.reduceSub, Nat.reduceLeDiff, Nat.reduceMul, Nat.reduceLT, Nat.reduceEqDiff, Int.reduceLT, Int.reduceLE, Int.reduceAdd, Int.reduceSub, Int.reduceMul, Int.reduceToNat, reduceIte, reduceCtorEq, Nat.reduceBEq, calV]
              refine ref_minus W' U' (by omega) (by omega) fun D b hD hb he => ?_
              have hD' : W' = U' + D := by omega
              refine run_driveS 80 ?_
              simp only [go_sem, Nat.reduceAdd, Nat.reduceSub, Nat.reduceLeDiff, Nat.reduceMul, Nat.reduceLT, Nat.reduceEqDiff, Int.reduceLT, Int.reduceLE, Int.reduceAdd, Int.reduceSub, Int.reduceMul, Int.reduceToNat, reduceIte, reduceCtorEq, Nat.reduceBEq, v17_23]
              refine run_call' rfl ?_
              simp only [go_sem, Nat.reduceAdd, Nat.reduceSub, Nat.reduceLeDiff, Nat.reduceMul, Nat.reduceLT, Nat.reduceEqDiff, Int.reduceLT, Int.reduceLE, Int.reduceAdd, Int.reduceSub, Int.reduceMul, Int.reduceToNat, reduceIte, reduceCtorEq, Nat.reduceBEq, calV]
              refine ref_sub Y' X' g2.y1 g2.x1 ?_
              refine run_driveS 80 ?_
              simp only [go_sem, Nat.reduceAdd, Nat.reduceSub, Nat.reduceLeDiff, Nat.reduceMul, Nat.reduceLT, Nat.reduceEqDiff, Int.reduceLT, Int.reduceLE, Int.reduceAdd, Int.reduceSub, Int.reduceMul, Int.reduceToNat, reduceIte, reduceCtorEq, Nat.reduceBEq]
              refine run_rename [0, 1, 2, 3, 4, 5, 6] rfl (by simp) ?_ ?_ ?_ (inv_out a hK N U' D X' _ (by omega) (g2.subW hD' (by omega)))
              · unfold gh
                simp only [go_sem, Nat.reduceAdd, Nat.reduceSub, Nat.reduceLeDiff, Nat.reduceMul, Nat.reduceLT, Nat.reduceEqDiff, Int.reduceLT, Int.reduceLE, Int.reduceAdd, Int.reduceSub, Int.reduceMul, Int.reduceToNat, reduceIte, reduceCtorEq, Nat.reduceBEq, hfit, lc_fit, scs_fit, fit, ren, gmap, lw_plain, true_or, or_true]
              · simp [uniq, gh, wrB]
              · unfold gt
                simp only [go_sem, Nat.reduceAdd, Nat.reduceSub, Nat.reduceLeDiff, Nat.reduceMul, Nat.reduceLT, Nat.reduceEqDiff, Int.reduceLT, Int.reduceLE, Int.reduceAdd, Int.reduceSub, Int.reduceMul, Int.reduceToNat, reduceIte, reduceCtorEq, Nat.reduceBEq, hfit, lc_fit, scs_fit, fit, ren, gmap, lw_plain, true_or, or_true]
            · refine run_cond_f (by simp only [go_sem, Nat.reduceAdd, Nat.reduceSub, Nat.reduceLeDiff, Nat.reduceMul, Nat.reduceLT, Nat.reduceEqDiff, Int.reduceLT, Int.reduceLE, Int.reduceAdd, Int.reduceSub, Int.reduceMul, Int.reduceToNat, reduceIte, reduceCtorEq, Nat.reduceBEq, decide_eq_false hlt]) ?_
              refine run_driveS 80 ?_
              simp only [go_sem, Nat.reduceAdd, Nat.reduceSub, Nat.reduceLeDiff, Nat.reduceMul, Nat.reduceLT, Nat.reduceEqDiff, Int.reduceLT, Int.reduceLE, Int.reduceAdd, Int.reduceSub, Int.reduceMul, Int.reduceToNat, reduceIte, reduceCtorEq, Nat.reduceBEq, v17_24]
              refine run_call' rfl ?_
              simp only [go_sem, Nat.reduceAdd, Nat.reduceSub, Nat.reduceLeDiff, Nat.reduceMul, Nat.reduceLT, Nat.reduceEqDiff, Int.reduceLT, Int.reduceLE, Int.reduceAdd, Int.reduceSub, Int.reduceMul, Int.reduceToNat, reduceIte, reduceCtorEq, Nat.reduceBEq, calV]
              refine ref_minus U' W' (by omega) (by omega) fun D b hD hb he => ?_
              have hD' : U' = W' + D := by omega
              refine run_driveS 80 ?_
              simp only [go_sem, Nat.reduceAdd, Nat.reduceSub, Nat.reduceLeDiff, Nat.reduceMul, Nat.reduceLT, Nat.reduceEqDiff, Int.reduceLT, Int.reduceLE, Int.reduceAdd, Int.reduceSub, Int.reduceMul, Int.reduceToNat, reduceIte, reduceCtorEq, Nat.reduceBEq, v17_25]
              refine run_call' rfl ?_
              simp only [go_sem, Nat.reduceAdd, Nat.reduceSub, Nat.reduceLeDiff, Nat.reduceMul, Nat.reduceLT, Nat.reduceEqDiff, Int.reduceLT, Int.reduceLE, Int.reduceAdd, Int.reduceSub, Int.reduceMul, Int.reduceToNat, reduceIte, reduceCtorEq, Nat.reduceBEq, calV]
              refine ref_sub X' Y' g2.x1 g2.y1 ?_
              refine run_driveS 80 ?_
              simp only [go_sem, Nat.reduceAdd, Nat.reduceSub, Nat.reduceLeDiff, Nat.reduceMul, Nat.reduceLT, Nat.reduceEqDiff, Int.reduceLT, Int.reduceLE, Int.reduceAdd, Int.reduceSub, Int.reduceMul, Int.reduceToNat, reduceIte, reduceCtorEq, Nat.reduceBEq]
              refine run_rename [0, 1, 2, 3, 4, 5, 6] rfl (by simp) ?_ ?_ ?_ (inv_out a hK N D W' _ Y' (by omega) (g2.subU hD' (by omega)))
              · unfold gh
                simp only [go_sem, Nat.reduceAdd, Nat.reduceSub, Nat.reduceLeDiff, Nat.reduceMul, Nat.reduceLT, Nat.reduceEqDiff, Int.reduceLT, Int.reduceLE, Int.reduceAdd, Int.reduceSub, Int.reduceMul, Int.reduceToNat, reduceIte, reduceCtorEq, Nat.reduceBEq, hfit, lc_fit, scs_fit, fit, ren, gmap, lw_plain, true_or, or_true]
              · simp [uniq, gh, wrB]
              · unfold gt
                simp only [go_sem, Nat.reduceAdd, Nat.reduceSub, Nat.reduceLeDiff, Nat.reduceMul, Nat.reduceLT, Nat.reduceEqDiff, Int.reduceLT, Int.reduceLE, Int.reduceAdd, Int.reduceSub, Int.reduceMul, Int.reduceToNat, reduceIte, reduceCtorEq, Nat.reduceBEq, hfit, lc_fit, scs_fit, fit, ren, gmap, lw_plain, true_or, or_true]

theorem ref_invert (A : Nat) (hA : A < ell) {h : Heap} {R : V → Heap → Prop} (hQ : R (lw (linv A)) h) : VCall Tryd.prog G 17 [lw A] h R := by
  have hl := ell_lt
  refine vcall_plain (Q := fun v => v = lw (linv A)) ?_ (fun g => by simp only [rens, ren, lw_plain]) (fun v g hv => by subst hv; exact lw_plain _ g) (fun v hv => by subst hv; exact hQ)
  refine vcall_body Tryd.func17 nm17 code17 nt17 ?_
  refine run_driveS 80 ?_
  simp only [go_sem, Nat.reduceAdd, Nat.reduceSub, Nat.reduceLeDiff, Nat.reduceMul, Nat.reduceLT, Nat.reduceEqDiff, Int.reduceLT, Int.reduceLE, Int.reduceAdd, Int.reduceSub, Int.reduceMul, Int.reduceToNat, reduceIte, reduceCtorEq, Nat.reduceBEq, v17, v17_0, v17_1]
  refine run_call' rfl ?_
  simp only [go_sem, Nat.reduceAdd, Nat.reduceSub, Nat.reduceLeDiff, Nat.reduceMul, Nat.reduceLT, Nat.reduceEqDiff, Int.reduceLT, Int.reduceLE, Int.reduceAdd, Int.reduceSub, Int.reduceMul, Int.reduceToNat, reduceIte, reduceCtorEq, Nat.reduceBEq, calV]
  refine ref_zero A (by omega) ?_
  refine run_driveS 80 ?_
  simp only [go_sem, Nat.reduceAdd, Nat.reduceSub, Nat.reduceLeDiff, Nat.reduceMul, Nat.reduceLT, Nat.reduceEqDiff, Int.reduceLT, Int.reduceLE, Int.reduceAdd, Int.reduceSub, Int.reduceMul, Int.reduceToNat, reduceIte, reduceCtorEq, Nat.reduceBEq]
  by_cases h0 : A = 0
  · refine run_cond_t (by simp only [go_sem, Nat.reduceAdd, Nat.reduceSub, Nat.reduceLeDiff, Nat.reduceMul, Nat.reduceLT, Nat.reduceEqDiff, Int.reduceLT, Int.reduceLE, Int.reduceAdd, Int.reduceSub, Int.reduceMul, Int.reduceToNat, reduceIte, reduceCtorEq, Nat.reduceBEq, decide_eq_true h0]) ?_
    refine run_driveS 80 ?_
    simp only [go_sem, Nat.reduceAdd, Nat.reduceSub, Nat.reduceLeDiff, Nat.reduceMul, Nat.reduceLT, Nat.reduceEqDiff, Int.reduceLT, Int.reduceLE, Int.reduceAdd, Int.reduceSub, Int.reduceMul, Int.reduceToNat, reduceIte, reduceCtorEq, Nat.reduceBEq, v17_2]
    refine run_ret_drop Tryd.func17 res17 [] (lw (linv A)) [] rfl (by simp) trivial (by simp [uniq]) ?_ ⟨rfl, rfl⟩
    rw [show linv A = A by rw [h0]; exact linv_zero (Nat.zero_mod _)]
    simp only [go_sem, Nat.reduceAdd, Nat.reduceSub, Nat.reduceLeDiff, Nat.reduceMul, Nat.reduceLT, Nat.reduceEqDiff, Int.reduceLT, Int.reduceLE, Int.reduceAdd, Int.reduceSub, Int.reduceMul, Int.reduceToNat, reduceIte, reduceCtorEq, Nat.reduceBEq, r17, lw_plain]
  · refine run_cond_f (by simp only [go_sem, Nat.reduceAdd, Nat.reduceSub, Nat.reduceLeDiff, Nat.reduceMul, Nat.reduceLT, Nat.reduceEqDiff, Int.reduceLT, Int.reduceLE, Int.reduceAdd, Int.reduceSub, Int.reduceMul, Int.reduceToNat, reduceIte, reduceCtorEq, Nat.reduceBEq, decide_eq_false h0]) ?_
    refine run_driveS 80 ?_
    simp only [go_sem, Nat.reduceAdd, Nat.reduceSub, Nat.reduceLeDiff, Nat.reduceMul, Nat.reduceLT, Nat.reduceEqDiff, Int.reduceLT, Int.reduceLE, Int.reduceAdd, Int.reduceSub, Int.reduceMul, Int.reduceToNat, reduceIte, reduceCtorEq, Nat.reduceBEq, v17_3, v17_4]
    refine run_call' rfl ?_
    simp only [go_sem, Nat.reduceAdd, Nat.reduceSub, Nat.reduceLeDiff, Nat.reduceMul, Nat.reduceLT, Nat.reduceEqDiff, Int.reduceLT, Int.reduceLE, Int.reduceAdd, Int.reduceSub, Int.reduceMul, Int.reduceToNat, reduceIte, reduceCtorEq, Nat.reduceBEq, calV]
    refine ref_l ?_
    refine run_driveS 80 ?_
    simp only [go_sem, Nat.reduceAdd, Nat.reduceSub, Nat.reduceLeDiff, Nat.reduceMul, Nat.reduceLT, Nat.reduceEqDiff, Int.reduceLT, Int.reduceLE, Int.reduceAdd, Int.reduceSub, Int.reduceMul, Int.reduceToNat, reduceIte, reduceCtorEq, Nat.reduceBEq, v17_5]
    refine run_call' rfl ?_
    simp only [go_sem, Nat.reduceAdd, Nat.reduceSub, Nat.reduceLeDiff, Nat.reduceMul, Nat.reduceLT, Nat.reduceEqDiff, Int.reduceLT, Int.reduceLE, Int.reduceAdd, Int.reduceSub, Int.reduceMul, Int.reduceToNat, reduceIte, reduceCtorEq, Nat.reduceBEq, calV]
    refine ref_int' 1 (by decide) ?_
    refine run_driveS 80 ?_
    simp only [go_sem, Nat.reduceAdd, Nat.reduceSub, Nat.reduceLeDiff, Nat.reduceMul, Nat.reduceLT, Nat.reduceEqDiff, Int.reduceLT, Int.reduceLE, Int.reduceAdd, Int.reduceSub, Int.reduceMul, Int.reduceToNat, reduceIte, reduceCtorEq, Nat.reduceBEq, v17_6, v17_7]
    refine run_call' rfl ?_
    simp only [go_sem, Nat.reduceAdd, Nat.reduceSub, Nat.reduceLeDiff, Nat.reduceMul, Nat.reduceLT, Nat.reduceEqDiff, Int.reduceLT, Int.reduceLE, Int.reduceAdd, Int.reduceSub, Int.reduceMul, Int.reduceToNat, reduceIte, reduceCtorEq, Nat.reduceBEq, calV]
    refine ref_int' 1 (by decide) ?_
    refine run_driveS 80 ?_
    simp only [go_sem, Nat.reduceAdd, Nat.reduceSub, Nat.reduceLeDiff, Nat.reduceMul, Nat.reduceLT, Nat.reduceEqDiff, Int.reduceLT, Int.reduceLE, Int.reduceAdd, Int.reduceSub, Int.reduceMul, Int.reduceToNat, reduceIte, reduceCtorEq, Nat.reduceBEq, v17_28]
    have hne : A % ell ≠ 0 := by rw [Nat.mod_eq_of_lt hA]; exact h0
    have g0 : Good A A ell 1 0 := {
      u0 := by omega
      w0 := ell_pos
      u1 := hA
      w1 := Nat.le_refl _
      x1 := by decide
      y1 := by decide
      co := by
        rw [Nat.gcd_comm]
        exact Pr.pr_cop Pr.p8 fun hd => hne (Nat.mod_eq_zero_of_dvd hd)
      ux := by rw [Nat.mul_one]
      wy := by rw [Nat.mul_zero, Nat.zero_mod, Nat.mod_self] }
    refine run_rename [0, 1, 2, 3, 4, 5, 6] rfl (by simp) ?_ ?_ ?_ (inv_out A (K := [.c (.seq (.seq (.reg v17_29) (.cond (.t 63) (.seq (.reg v17_30) .ret) .skip)) (.seq (.reg v17_31) .ret))]) (fun U W X Y g hor => ?_) _ A ell 1 0 (Nat.le_refl _) g0)
    · unfold gh
      simp only [go_sem, Nat.reduceAdd, Nat.reduceSub, Nat.reduceLeDiff, Nat.reduceMul, Nat.reduceLT, Nat.reduceEqDiff, Int.reduceLT, Int.reduceLE, Int.reduceAdd, Int.reduceSub, Int.reduceMul, Int.reduceToNat, reduceIte, reduceCtorEq, Nat.reduceBEq, hfit, lc_fit, scs_fit, fit, ren, gmap, lw_plain, true_or, or_true, lc_zero]
    · simp [uniq, gh, wrB]
    · unfold gt
      simp only [go_sem, Nat.reduceAdd, Nat.reduceSub, Nat.reduceLeDiff, Nat.reduceMul, Nat.reduceLT, Nat.reduceEqDiff, Int.reduceLT, Int.reduceLE, Int.reduceAdd, Int.reduceSub, Int.reduceMul, Int.reduceToNat, reduceIte, reduceCtorEq, Nat.reduceBEq, hfit, lc_fit, scs_fit, fit, ren, gmap, lw_plain, true_or, or_true]
    · have hu := g.u1
      have q1 := lc_eqL (A := U) (B := 1) (by omega) one_lt
      unfold gt gh
      refine run_driveS 80 ?_
      simp only [go_sem, Nat.reduceAdd, Nat.reduceSub, Nat.reduceLeDiff, Nat.reduceMul, Nat.reduceLT, Nat.reduceEqDiff, Int.reduceLT, Int.reduceLE, Int.reduceAdd, Int.reduceSub, Int.reduceMul, Int.reduceToNat, reduceIte, reduceCtorEq, Nat.reduceBEq, v17_29, q1]
      by_cases hU : U = 1
      · refine run_cond_t (by simp only [go_sem, Nat.reduceAdd, Nat.reduceSub, Nat.reduceLeDiff, Nat.reduceMul, Nat.reduceLT, Nat.reduceEqDiff, Int.reduceLT, Int.reduceLE, Int.reduceAdd, Int.reduceSub, Int.reduceMul, Int.reduceToNat, reduceIte, reduceCtorEq, Nat.reduceBEq, decide_eq_true hU]) ?_
        refine run_driveS 80 ?_
        simp only [go_sem, Nat.reduceAdd, Nat.reduceSub, Nat.reduceLeDiff, Nat.reduceMul, Nat.reduceLT, Nat.reduceEqDiff, Int.reduceLT, Int.reduceLE, Int.reduceAdd, Int.reduceSub, Int.reduceMul, Int.reduceToNat, reduceIte, reduceCtorEq, Nat.reduceBEq, v17_30]
        refine run_ret_drop Tryd.func17 res17 [] (lw (linv A)) [] rfl (by simp) trivial (by simp [uniq]) ?_ ⟨rfl, rfl⟩
        have hx := g.ux
        rw [hU, Nat.mul_comm] at hx
        rw [← linv_of g.x1 (hx.trans rfl)]
        simp only [go_sem, Nat.reduceAdd, Nat.reduceSub, Nat.reduceLeDiff, Nat.reduceMul, Nat.reduceLT, Nat.reduceEqDiff, Int.reduceLT, Int.reduceLE, Int.reduceAdd, Int.reduceSub, Int.reduceMul, Int.reduceToNat, reduceIte, reduceCtorEq, Nat.reduceBEq, r17, lw_plain]
      · refine run_cond_f (by simp only [go_sem, Nat.reduceAdd, Nat.reduceSub, Nat.reduceLeDiff, Nat.reduceMul, Nat.reduceLT, Nat.reduceEqDiff, Int.reduceLT, Int.reduceLE, Int.reduceAdd, Int.reduceSub, Int.reduceMul, Int.reduceToNat, reduceIte, reduceCtorEq, Nat.reduceBEq, decide_eq_false hU]) ?_
        refine run_driveS 80 ?_
        simp only [go_sem, Nat.reduceAdd, Nat.reduceSub, Nat.reduceLeDiff, Nat.reduceMul, Nat.reduceLT, Nat.reduceEqDiff, Int.reduceLT, Int.reduceLE, Int.reduceAdd, Int.reduceSub, Int.reduceMul, Int.reduceToNat, reduceIte, reduceCtorEq, Nat.reduceBEq, v17_31]
        refine run_ret_drop Tryd.func17 res17 [] (lw (linv A)) [] rfl (by simp) trivial (by simp [uniq]) ?_ ⟨rfl, rfl⟩
        have hy := g.wy
        rcases hor with h | h
        · exact (hU h).elim
        · rw [h, Nat.mul_comm] at hy
          rw [← linv_of g.y1 (hy.trans rfl)]
          simp only [go_sem, Nat.reduceAdd, Nat.reduceSub, Nat.reduceLeDiff, Nat.reduceMul, Nat.reduceLT, Nat.reduceEqDiff, Int.reduceLT, Int.reduceLE, Int.reduceAdd, Int.reduceSub, Int.reduceMul, Int.reduceToNat, reduceIte, reduceCtorEq, Nat.reduceBEq, r17, lw_plain]
end Go.Vs.Tryd
