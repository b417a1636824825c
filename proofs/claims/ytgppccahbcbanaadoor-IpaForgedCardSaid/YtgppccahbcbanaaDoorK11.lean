/- Text 11 of 11 of this claim: a machine of plain values beside the model, what the functions of the program and of the reference answer over it, and last the row and its card. -/
import Derived.Test.YtgppccahbcbanaaDoorK10
import Derived.Test.YtgppccahbcbanaaDoorK7
import Derived.WalkKit
import Derived.ProofKit
import Derived.Carry
import Derived.Lay
import Derived.SevenTiedAt
import Derived.Deep.Slices
import Derived.OpenShut
import Derived.Test.YtgppccahbcbanaaDoorCards
import Derived.Test.YtgppccahbcbanaaDoorTie
import Derived.Conc.Holds
set_option linter.unusedVariables false
set_option linter.unusedSimpArgs false
namespace Go.Vs.Tryd
open Go.Proofs
variable {G : Nat → List V}
set_option linter.unusedSimpArgs false
attribute [local go_sem] lenO_nils lenO_sl sliceAtV Int.sub_zero List.length_append List.all_append ge_iff_le gt_iff_lt Int.natCast_nonneg Int.toNat_natCast Nat.mul_one b_and_ll b_shr_ll b_mul_ll b_add_ll b_or_ll b_shl_ll pick_ll pick_lc pick_bb driveS stopV Option.isSome_some Option.isSome_none Kind.m Kind.w Kind.g look_ro look_rw look_grow drive stepV exo expo evs fillV isNil nilKind eqV eqL optA optM sliceAtV ev kn ldc stc splice appV srcV lenV setd wantV exitV rvs rv one List.length_cons List.length_nil List.cons_append List.nil_append List.append_nil List.replicate List.getD_cons_zero List.getD_cons_succ List.set_cons_zero List.set_cons_succ List.getElem?_cons_zero List.getElem?_cons_succ List.getElem?_nil List.take_succ_cons List.take_zero List.take_nil List.drop_succ_cons List.drop_zero List.drop_nil List.all_cons List.all_nil List.any_cons List.any_nil Bool.and_true Bool.true_and Bool.and_self Option.map_some Option.map_none Option.bind_some Option.some.injEq Nat.add_zero Nat.zero_add Int.toNat_zero Int.toNat_one Int.zero_add Int.add_zero if_true if_false ite_true ite_false and_true true_and and_self ne_eq not_false_eq_true not_true_eq_false decide_true decide_false Bool.false_eq_true Bool.not_true Bool.not_false beq_self_eq_true BEq.rfl Bool.not_eq_true Nat.le_refl Int.le_refl Nat.zero_le List.foldl List.map_cons List.map_nil Prod.mk.injEq Int.cast_ofNat_Int Int.zero_le_ofNat b_add_cc b_add_cl b_add_lc b_mul_cc b_mul_cl b_mul_lc b_sub_cc b_sub_cl b_sub_lc b_and_cc b_and_cl b_and_lc b_or_cc b_or_cl b_or_lc b_xor_cc b_xor_cl b_xor_lc b_andNot_cc b_andNot_cl b_andNot_lc b_shr_cc b_shr_cl b_shr_lc b_shl_cc b_shl_cl b_shl_lc b_lss b_leq b_gtr b_geq b_add_i b_sub_i b_mul_i beq_cc beq_cl beq_lc beq_ll b_quo_i b_rem_i neg_u64 wrap_i64 driveD stepD idsAt idOf maskH_nil restore_nil restore_mask List.filterMap_nil List.filterMap_cons VOp.looks VOp.makes exA cells_agg cells_int cells_bool cells_str cells_nilp cells_ptr cells_glob cells_nils cells_sl cells_nilf cells_fn cells_nili cells_ifc known_agg known_tup known_int known_bool known_str known_nilp known_ptr known_glob known_nils known_sl known_nilf known_fn known_nili known_ifc known_unk one_agg one_tup one_int one_bool one_str one_nilp one_ptr one_glob one_nils one_sl one_nilf one_fn one_nili one_ifc asK_int asN_int asB_bool asS_str asG_agg asT_tup true_or or_true false_or or_false
attribute [local go_sem_proc] Nat.reduceAdd Nat.reduceSub Nat.reduceLeDiff Nat.reduceMul Nat.reduceLT Nat.reduceEqDiff Int.reduceLT Int.reduceLE Int.reduceAdd Int.reduceSub Int.reduceMul Int.reduceToNat reduceIte reduceCtorEq Nat.reduceBEq
section
attribute [local go_sem ↓] lc_len lc_take lc_drop lc_known lc_one lc_rens lc_cells lw_known lw_agg lw_asG scs_known scs_one scs_len lc_take_add lc_drop_add ivl_known ivl_one
attribute [local go_sem] lt_nat lt_natl lt_lnat lt_ll bool_tf bool_ft
set_option maxRecDepth 100000
set_option maxHeartbeats 2000000
theorem fga_lt (p q l r u : Nat) (g h lo hi : Nat → Nat) (m : Nat) (hlo : ∀ j, lo j < 115792089237316195423570985008687907853269984665640564039457584007913129639936) (j : Nat) : fga p q l r u g h lo hi m j < 115792089237316195423570985008687907853269984665640564039457584007913129639936 := by
  unfold fga fa0; split
  · exact mod_lt _
  · exact hlo j
def cap4 (c0 c1 c2 c3 : Cap) (i : Nat) : Cap := if i = 0 then c0 else if i = 1 then c1 else if i = 2 then c2 else c3
def smk (q : Nat) (g h f : Nat → Nat) (n : Nat) : Nat → Nat
  | 0 => q * f 0 % ell
  | i + 1 => ((smk q g h f n i + g i * f (1 + i) % ell) % ell + h i * f (1 + n + i) % ell) % ell
theorem smk_lt (q : Nat) (g h f : Nat → Nat) (n i : Nat) : smk q g h f n i < 115792089237316195423570985008687907853269984665640564039457584007913129639936 := by cases i <;> exact mod_lt _
def som (f : Nat → Nat) (n : Nat) : Nat → Bool
  | 0 => !decide (f 0 % ell = 0)
  | i + 1 => som f n i || !decide (f (1 + i) % ell = 0) || !decide (f (1 + n + i) % ell = 0)
theorem som_true {f : Nat → Nat} {n : Nat} : ∀ {i : Nat}, som f n i = false → f 0 % ell = 0 ∧ ∀ j, j < i → f (1 + j) % ell = 0 ∧ f (1 + n + j) % ell = 0
  | 0, h => ⟨by simpa [som] using h, fun j hj => absurd hj (by omega)⟩
  | i + 1, h => by
    simp only [som, Bool.or_eq_false_iff, Bool.not_eq_false', decide_eq_true_eq] at h
    obtain ⟨⟨h1, h2⟩, h3⟩ := h
    obtain ⟨a, b⟩ := som_true h1
    refine ⟨a, fun j hj => ?_⟩
    rcases Nat.lt_or_ge j i with h' | h'
    · exact b j h'
    · obtain rfl : j = i := by omega
      exact ⟨h2, h3⟩
theorem som_dif {f : Nat → Nat} {m : Nat} (h : dif f (1 + 4 * m) = true) : som f (2 * m) (2 * m) = true := by
  cases e : som f (2 * m) (2 * m) with
  | true => rfl
  | false =>
    exfalso
    obtain ⟨a, b⟩ := som_true e
    obtain ⟨j, j1, j2⟩ := dif_true h
    by_cases h0 : j = 0
    · exact j2 (by rw [h0]; exact a)
    · by_cases h1 : j < 1 + 2 * m
      · have := (b (j - 1) (by omega)).1
        rw [show 1 + (j - 1) = j by omega] at this
        exact j2 this
      · have := (b (j - 1 - 2 * m) (by omega)).2
        rw [show 1 + 2 * m + (j - 1 - 2 * m) = j by omega] at this
        exact j2 this
theorem ph_smk (q : Nat) (g h f : Nat → Nat) (n : Nat) : ∀ i, Go.VsP.ph (smk q g h f n i) = Go.VsP.ph q * Go.VsP.ph (f 0) + Go.VsP.sF (fun j => Go.VsP.ph (g j) * Go.VsP.ph (f (1 + j)) + Go.VsP.ph (h j) * Go.VsP.ph (f (1 + n + j))) i
  | 0 => by
    rw [smk, ph_mulm]
    show _ = _ + 0
    generalize Go.VsP.ph q * Go.VsP.ph (f 0) = a
    grobner
  | i + 1 => by
    have ih := ph_smk q g h f n i
    show Go.VsP.ph (smk q g h f n (i + 1)) = _ + (Go.VsP.sF _ i + _)
    rw [smk, ph_addm, ph_addm, ph_mulm, ph_mulm, ih]
    dsimp only
    generalize Go.VsP.ph q * Go.VsP.ph (f 0) = a
    generalize Go.VsP.sF (fun j => Go.VsP.ph (g j) * Go.VsP.ph (f (1 + j)) + Go.VsP.ph (h j) * Go.VsP.ph (f (1 + n + j))) i = b
    generalize Go.VsP.ph (g i) * Go.VsP.ph (f (1 + i)) = c
    generalize Go.VsP.ph (h i) * Go.VsP.ph (f (1 + n + i)) = d
    clear ih
    grobner
theorem smk_zero {q m : Nat} {g h f : Nat → Nat} (e : Go.VsP.dot m (Go.VsP.ph q) (fun j => Go.VsP.ph (g j)) (fun j => Go.VsP.ph (h j)) (fun j => Go.VsP.ph (f j)) = 0) : smk q g h f (2 * m) (2 * m) % ell = 0 := by
  refine ph_z.1 ?_
  rw [← e, ph_smk, sF_two]
  unfold Go.VsP.dot
  have key : Go.VsP.sF (fun j => Go.VsP.ph (g j) * Go.VsP.ph (f (1 + j)) + Go.VsP.ph (h j) * Go.VsP.ph (f (1 + 2 * m + j)) + (Go.VsP.ph (g (m + j)) * Go.VsP.ph (f (1 + (m + j))) + Go.VsP.ph (h (m + j)) * Go.VsP.ph (f (1 + 2 * m + (m + j))))) m = Go.VsP.sF (fun j => Go.VsP.ph (f (1 + j)) * Go.VsP.ph (g j) + Go.VsP.ph (f (1 + m + j)) * Go.VsP.ph (g (m + j)) + Go.VsP.ph (f (1 + 2 * m + j)) * Go.VsP.ph (h j) + Go.VsP.ph (f (1 + 3 * m + j)) * Go.VsP.ph (h (m + j))) m := by
    refine Go.VsP.sF_congr fun j _ => ?_
    rw [show 1 + (m + j) = 1 + m + j by omega, show 1 + 2 * m + (m + j) = 1 + 3 * m + j by omega]
    generalize Go.VsP.ph (g j) = a
    generalize Go.VsP.ph (g (m + j)) = b
    generalize Go.VsP.ph (h j) = c
    generalize Go.VsP.ph (h (m + j)) = d
    generalize Go.VsP.ph (f (1 + j)) = a'
    generalize Go.VsP.ph (f (1 + m + j)) = b'
    generalize Go.VsP.ph (f (1 + 2 * m + j)) = c'
    generalize Go.VsP.ph (f (1 + 3 * m + j)) = d'
    clear e
    grobner
  refine (congrArg (fun z => Go.VsP.ph q * Go.VsP.ph (f 0) + z) key).trans ?_
  refine congrArg (fun z => z + _) ?_
  dsimp only
  generalize Go.VsP.ph q = a
  generalize Go.VsP.ph (f 0) = b
  clear key e
  grobner
theorem st4 (p q : Nat) (x y : V) : ((lc p ++ lc q ++ [x, y]).drop 4).take 4 = lc q := rfl
theorem st0 (p q : Nat) (x y : V) : (lc p ++ lc q ++ [x, y]).take 4 = lc p := rfl
theorem brs_four (U : Nat → Nat) (m : Nat) (c0 c1 c2 c3 d0 d1 d2 d3 : Cap) : brs U m (cap4 c0 c1 c2 c3) (cap4 d0 d1 d2 d3) = (lc (U 0) ++ [.sl 3 0 m c0, .sl 4 0 m d0]) ++ (lc (U 1) ++ [.sl 5 0 m c1, .sl 6 0 m d1]) ++ (lc (U 2) ++ [.sl 7 0 m c2, .sl 8 0 m d2]) ++ (lc (U 3) ++ [.sl 9 0 m c3, .sl 10 0 m d3]) := rfl
theorem law_end_ (hG : G 0 = tbl) (g h a b l r us : Nat → Nat) (Q' P' nG mG nH mH nA mA nB mB nL mL nR mR nU mU : Nat) (zG zH zA zB zL zR zU : Bool) (C : List V) (cC : CaseC C Q' P' nG mG nH mH nA mA nB mB nL mL nR mR nU mU zG zH zA zB zL zR zU)
    (hg : ∀ j, g j < 115792089237316195423570985008687907853269984665640564039457584007913129639936) (hh : ∀ j, h j < 115792089237316195423570985008687907853269984665640564039457584007913129639936) (ha : ∀ j, a j < 115792089237316195423570985008687907853269984665640564039457584007913129639936) (hb : ∀ j, b j < 115792089237316195423570985008687907853269984665640564039457584007913129639936) (hl : ∀ j, l j < 115792089237316195423570985008687907853269984665640564039457584007913129639936) (hr : ∀ j, r j < 115792089237316195423570985008687907853269984665640564039457584007913129639936) (hus : ∀ j, us j < 115792089237316195423570985008687907853269984665640564039457584007913129639936) (hQ : Q' < 115792089237316195423570985008687907853269984665640564039457584007913129639936) (hP : P' < 115792089237316195423570985008687907853269984665640564039457584007913129639936)
    (oG : Ok nG mG zG) (oH : Ok nH mH zH) (oA : Ok nA mA zA) (oB : Ok nB mB zB) (oL : Ok nL mL zL) (oR : Ok nR mR zR) (oU : Ok nU mU zU) (sG : nG < 9223372036854775808) (sH : nH < 9223372036854775808) (sA : nA < 9223372036854775808) (sB : nB < 9223372036854775808) (sL : nL < 9223372036854775808) (sR : nR < 9223372036854775808) (sU : nU < 9223372036854774000)
    (m : Nat) (hm : 0 < m) (hm4 : m ≤ 4) (hpw : ∃ k : Nat, k ≤ 10 ∧ 2 * m = 2 ^ k) (U : Nat → Nat) (hU : ∀ j, U j < 115792089237316195423570985008687907853269984665640564039457584007913129639936) (nz : ∀ j, j < 4 → U j % ell ≠ 0) (un : ∀ j k, j < 4 → k < 4 → j ≠ k → U j * U j % ell ≠ U k * U k % ell)
    (hk : ∀ i, i < 4 → fkk Q' (fgo (linv (U i)) (U i) (fl g nG) m) (fun j => fl b nB (m + j)) % ell ≠ 0) (k0 e0 k1 e1 k2 e2 k3 e3 : Kind) (c0 d0 c1 d1 c2 d2 c3 d3 : Cap) (mk0 : k0.m = true) (me0 : e0.m = true) (mk1 : k1.m = true) (me1 : e1.m = true) (mk2 : k2.m = true) (me2 : e2.m = true) (mk3 : k3.m = true) (me3 : e3.m = true) : RunM Tryd.prog G 3 7 {} (fun v k => v = .bool true ∧ k = [ivb g nG zG, ivb h nH zH, ivb a nA zA, ivb b nB zB, ivb l nL zL, ivb r nR zR, ivb us nU zU]) ([TI.l v3_20, TI.b 0, TI.c ((VC.reg v3_22).seq (((VC.reg v3_23).seq (VC.cond (Go.Vs.A.t 111) ((VC.reg v3_24).seq VC.ret) VC.skip)).seq (((VC.reg v3_25).seq (VC.cond (Go.Vs.A.t 114) ((VC.reg v3_26).seq ((VC.reg v3_27).seq VC.ret)) VC.skip)).seq (((VC.reg v3_28).seq (VC.cond (Go.Vs.A.t 148) ((VC.reg v3_29).seq VC.ret) VC.skip)).seq ((VC.drw v3_30).seq ((VC.reg v3_31).seq (((VC.reg v3_32).seq (VC.block 2 v3_39)).seq ((VC.reg v3_40).seq VC.ret))))))))], ⟨[.unk, .ptr 7 0, .bool false, .int .i64 ((2 * m : Nat) : Int), .sl 8 0 (2 * m) (.grow 4), .sl 9 0 (2 * m) (.grow 4), .ptr 10 0, .ptr 11 0, .ptr 12 0, .sl 13 0 4 (.grow 4), .sl 22 0 4 (.grow 6), .int .i64 (4 : Nat)] ++ List.replicate 207 .unk, [ivb g nG zG, ivb h nH zH, ivb a nA zA, ivb b nB zB, ivb l nL zL, ivb r nR zR, ivb us nU zU, some ⟨.rw, C⟩, some ⟨.grow, scs (2 * m) (fl g nG)⟩, some ⟨.grow, scs (2 * m) (fl h nH)⟩, some ⟨.rw, lc P' ++ lc Q' ++ [.sl 8 0 (2 * m) (.grow 4), .sl 9 0 (2 * m) (.grow 4)]⟩, some ⟨.rw, lc (fl l nL 0)⟩, some ⟨.rw, lc (fl r nR 0)⟩, some ⟨.grow, scs 4 U⟩, some ⟨k0, scs m (fga P' Q' (fl l nL 0) (fl r nR 0) (U 0) (fl g nG) (fl h nH) (fl a nA) (fun j => fl b nB (m + j)) m)⟩, some ⟨e0, scs m (fun j => fl b nB (m + j))⟩, some ⟨k1, scs m (fga P' Q' (fl l nL 0) (fl r nR 0) (U 1) (fl g nG) (fl h nH) (fl a nA) (fun j => fl b nB (m + j)) m)⟩, some ⟨e1, scs m (fun j => fl b nB (m + j))⟩, some ⟨k2, scs m (fga P' Q' (fl l nL 0) (fl r nR 0) (U 2) (fl g nG) (fl h nH) (fl a nA) (fun j => fl b nB (m + j)) m)⟩, some ⟨e2, scs m (fun j => fl b nB (m + j))⟩, some ⟨k3, scs m (fga P' Q' (fl l nL 0) (fl r nR 0) (U 3) (fl g nG) (fl h nH) (fl a nA) (fun j => fl b nB (m + j)) m)⟩, some ⟨e3, scs m (fun j => fl b nB (m + j))⟩, some ⟨.grow, (lc (U 0) ++ [.sl 14 0 m c0, .sl 15 0 m d0]) ++ (lc (U 1) ++ [.sl 16 0 m c1, .sl 17 0 m d1]) ++ (lc (U 2) ++ [.sl 18 0 m c2, .sl 19 0 m d2]) ++ (lc (U 3) ++ [.sl 20 0 m c3, .sl 21 0 m d3])⟩]⟩) := by
  have hf1 := fl_lt hg nG
  have hf2 := fl_lt hh nH
  have hf3 := fl_lt ha nA
  have hf4 := fl_lt hb nB
  have hf5 := fl_lt hl nL
  have hf6 := fl_lt hr nR
  have hA : ∀ i j, (fun i => fga P' Q' (fl l nL 0) (fl r nR 0) (U i) (fl g nG) (fl h nH) (fl a nA) (fun j => fl b nB (m + j)) m) i j < 115792089237316195423570985008687907853269984665640564039457584007913129639936 := fun i j => fga_lt _ _ _ _ _ _ _ _ _ _ hf3 j
  have hn : ∀ i, i < 4 → psum (tK (inn ((fun i => fga P' Q' (fl l nL 0) (fl r nR 0) (U i) (fl g nG) (fl h nH) (fl a nA) (fun j => fl b nB (m + j)) m) i) ((fun _ => fun j => fl b nB (m + j)) i) m) ((fun i => fga P' Q' (fl l nL 0) (fl r nR 0) (U i) (fl g nG) (fl h nH) (fl a nA) (fun j => fl b nB (m + j)) m) i) ((fun _ => fun j => fl b nB (m + j)) i)) (tK Q' (fe (linv (U i)) (U i) m (fl g nG)) (fe (U i) (linv (U i)) m (fl h nH))) (1 + 2 * m) % ell = pf1 P' (fl l nL 0) (fl r nR 0) (U i) % ell := fun i hi => forged_right P' Q' (fl l nL 0) (fl r nR 0) (U i) (fl g nG) (fl h nH) (fl a nA) (fun j => fl b nB (m + j)) hm (hk i hi)
  refine run_loop_eq v3_20.eq_1 ?_
  refine run_driveS 80 ?_
  simp only [go_sem, v3_12]
  refine run_exit rfl ?_
  refine run_driveS 80 ?_
  simp only [go_sem, v3_22, stP]
  refine run_call' rfl ?_
  simp only [go_sem, calV]
  refine vcall_at (join_ hG P' Q' U hU (fl g nG) (fl h nH) (fun i => fga P' Q' (fl l nL 0) (fl r nR 0) (U i) (fl g nG) (fl h nH) (fl a nA) (fun j => fl b nB (m + j)) m) (fun _ => fun j => fl b nB (m + j)) hA (fun _ j => hf4 _) m hm hm4 (cap4 c0 c1 c2 c3) (cap4 d0 d1 d2 d3) (fl l nL 0) (fl r nR 0) hP hQ (hf5 0) (hf6 0) hf1 hf2 hpw nz un hn (turned_nons nz un) (Q := (fun v k => ∃ x : Nat → Nat → Nat, (∀ w j, x w j < 115792089237316195423570985008687907853269984665640564039457584007913129639936) ∧ (∀ wh, wh < 3 → Go.VsP.Sol (fun c j => Go.VsP.ph (aug (fun c j => sqf (U j) c) (wnt wh) c j)) 1 (fun j => Go.VsP.ph (x wh j))) ∧ ((dif (rl4 U (fun i => fga P' Q' (fl l nL 0) (fl r nR 0) (U i) (fl g nG) (fl h nH) (fl a nA) (fun j => fl b nB (m + j)) m) (fun _ => fun j => fl b nB (m + j)) m x) (1 + 4 * m) = true ∧ v = .tup [.nils, .nils, .sl 11 0 (1 + 4 * m) (.exact (1 + 4 * m)), .int .i64 0] ∧ k = [none, none, none, none, none, none, none, none, none, none, none, some ⟨.rw, scs (1 + 4 * m) (rl4 U (fun i => fga P' Q' (fl l nL 0) (fl r nR 0) (U i) (fl g nG) (fl h nH) (fl a nA) (fun j => fl b nB (m + j)) m) (fun _ => fun j => fl b nB (m + j)) m x)⟩]) ∨ (dif (rl4 U (fun i => fga P' Q' (fl l nL 0) (fl r nR 0) (U i) (fl g nG) (fl h nH) (fl a nA) (fun j => fl b nB (m + j)) m) (fun _ => fun j => fl b nB (m + j)) m x) (1 + 4 * m) = false ∧ v = .tup [.sl 11 4 (2 * m) (.exact (2 * m)), .sl 11 ((1 + 2 * m) * 4) (2 * m) (.exact (2 * m)), .nils, .int .i64 0] ∧ k = [none, none, none, none, none, none, none, none, none, none, none, some ⟨.rw, scs (1 + 4 * m) (kn4 U (fun i => fga P' Q' (fl l nL 0) (fl r nR 0) (U i) (fl g nG) (fl h nH) (fl a nA) (fun j => fl b nB (m + j)) m) (fun _ => fun j => fl b nB (m + j)) m x 1)⟩])))) (fun x hx hs => ⟨fun hd => ⟨x, hx, hs, .inl ⟨hd, rfl, rfl⟩⟩, fun hd => ⟨x, hx, hs, .inr ⟨hd, rfl, rfl⟩⟩⟩)) [8, 9, 22, 14, 15, 16, 17, 18, 19, 20, 21] (by simp) ?_ (uniq_nodup' (by decide)) ?_ ?_
  · exact hfit_cons rfl (jb_ro (scs_rens ..)) (hfit_cons rfl (jb_ro (scs_rens ..)) (hfit_cons rfl (jb_ro (by rw [brs_four]; simp only [rens_append, lc_rens, rens, ren, gmap])) (hfit_cons rfl (jb_ro (scs_rens ..) mk0) (hfit_cons rfl (jb_ro (scs_rens ..) me0) (hfit_cons rfl (jb_ro (scs_rens ..) mk1) (hfit_cons rfl (jb_ro (scs_rens ..) me1) (hfit_cons rfl (jb_ro (scs_rens ..) mk2) (hfit_cons rfl (jb_ro (scs_rens ..) me2) (hfit_cons rfl (jb_ro (scs_rens ..) mk3) (hfit_cons rfl (jb_ro (scs_rens ..) me3) hfit_nil))))))))))
  · simp only [rens, ren, gmap, stL, lw_plain, rens_append, lc_rens, List.append_assoc]
  rintro v k ⟨x, hx, hsol, ⟨hd, rfl, rfl⟩ | ⟨hd, rfl, rfl⟩⟩
  · have t0 : (((((1 + 4 * m) : Nat) : Int)) == 0) = false := by rw [beq_eq_false_iff_ne]; omega
    have q1 : IntKind.i64.wrap (2 * ((2 * m : Nat) : Int)) = ((4 * m : Nat) : Int) := by rw [wrap_i64 (by omega) (by omega)]; omega
    have q2 : IntKind.i64.wrap (1 + ((4 * m : Nat) : Int)) = (((1 + 4 * m) : Nat) : Int) := by rw [wrap_i64 (by omega) (by omega)]; omega
    rw [puts_ro (by simp [wrB]) rfl (by simp)]
    simp only [List.map_cons, List.map_nil, Option.map_some, Option.map_none, renB, scs_rens, rens, ren, gmap, lw_plain, rens_append, lc_rens, List.drop_succ_cons, List.drop_zero, List.cons_append, List.nil_append, List.append_nil, List.length_cons, List.length_nil, Nat.reduceAdd]
    refine run_driveS 80 ?_
    simp only [go_sem]
    refine run_driveS 80 ?_
    simp only [go_sem, v3_23]
    refine run_cond_f (by rfl) ?_
    refine run_driveS 80 ?_
    simp only [go_sem, v3_25, t0]
    refine run_cond_f (by rfl) ?_
    refine run_driveS 80 ?_
    simp only [go_sem, v3_28, q1, q2]
    refine run_cond_f (by rfl) ?_
    have hRl : ∀ j, (rl4 U (fun i => fga P' Q' (fl l nL 0) (fl r nR 0) (U i) (fl g nG) (fl h nH) (fl a nA) (fun j => fl b nB (m + j)) m) (fun _ => fun j => fl b nB (m + j)) m x) j < 115792089237316195423570985008687907853269984665640564039457584007913129639936 := fun j => sb_lt ..
    have r0 := scs_get' (1 + 4 * m) (rl4 U (fun i => fga P' Q' (fl l nL 0) (fl r nR 0) (U i) (fl g nG) (fl h nH) (fl a nA) (fun j => fl b nB (m + j)) m) (fun _ => fun j => fl b nB (m + j)) m x) (i := 0) (by omega)
    rw [Nat.zero_mul, List.drop_zero] at r0
    have tp : ((0 : Int) < (((1 + 4 * m) : Nat) : Int)) = True := eq_true (by omega)
    refine run_driveS 80 ?_
    simp only [go_sem]
    refine run_drw (by kernel_rfl) ?_
    refine drun_drive 40 (p := (_, _)) ?_
    simp only [go_sem, v3_30, st4, r0, tp, restore, Option.join_some, maskH, List.mapIdx_cons, List.mapIdx_nil, List.contains_cons, List.contains_nil, Bool.or_false, Bool.or_true, Bool.false_or, Bool.true_or, Nat.reduceBEq]
    refine drun_call' ?_
    simp only [go_sem, calV, restore, Option.join_some, maskH, List.mapIdx_cons, List.mapIdx_nil, List.contains_cons, List.contains_nil, Bool.or_false, Bool.or_true, Bool.false_or, Bool.true_or, Nat.reduceBEq]
    refine mul' hG _ _ hQ (hRl 0) ?_
    refine drun_drive 40 (p := (_, _)) ?_
    simp only [go_sem, st4, r0, tp, restore, Option.join_some, maskH, List.mapIdx_cons, List.mapIdx_nil, List.contains_cons, List.contains_nil, Bool.or_false, Bool.or_true, Bool.false_or, Bool.true_or, Nat.reduceBEq]
    refine drun_end ?_
    refine run_driveS 80 ?_
    simp only [go_sem, v3_31, r0, tp]
    refine run_call' rfl ?_
    simp only [go_sem, calV]
    refine is_zero' hG _ (hRl 0) ?_
    refine run_driveS 80 ?_
    simp only [go_sem, v3_32, v3_39]
    refine run_rename [0, 1, 2, 3, 4, 5, 6, 8, 9, 23, 24] (st' := ⟨[.unk, .unk, .unk, .int .i64 ((2 * m : Nat) : Int), .sl 7 0 (2 * m) (.grow 4), .sl 8 0 (2 * m) (.grow 4)] ++ List.replicate 11 .unk ++ [.sl 9 0 (1 + 4 * m) (.exact (1 + 4 * m)), .unk, .unk, .unk, .ptr 10 0, .bool (som (rl4 U (fun i => fga P' Q' (fl l nL 0) (fl r nR 0) (U i) (fl g nG) (fl h nH) (fl a nA) (fun j => fl b nB (m + j)) m) (fun _ => fun j => fl b nB (m + j)) m x) (2 * m) 0), .int .i64 (0 : Nat)] ++ List.replicate 195 .unk, [ivb g nG zG, ivb h nH zH, ivb a nA zA, ivb b nB zB, ivb l nL zL, ivb r nR zR, ivb us nU zU, some ⟨.grow, scs (2 * m) (fl g nG)⟩, some ⟨.grow, scs (2 * m) (fl h nH)⟩, some ⟨.rw, scs (1 + 4 * m) (rl4 U (fun i => fga P' Q' (fl l nL 0) (fl r nR 0) (U i) (fl g nG) (fl h nH) (fl a nA) (fun j => fl b nB (m + j)) m) (fun _ => fun j => fl b nB (m + j)) m x)⟩, some ⟨.rw, lc (smk Q' (fl g nG) (fl h nH) (rl4 U (fun i => fga P' Q' (fl l nL 0) (fl r nR 0) (U i) (fl g nG) (fl h nH) (fl a nA) (fun j => fl b nB (m + j)) m) (fun _ => fun j => fl b nB (m + j)) m x) (2 * m) 0)⟩]⟩) rfl (by simp) ?_ (uniq_nodup' (by decide)) ?_ (run_for (fun i => ⟨[.unk, .unk, .unk, .int .i64 ((2 * m : Nat) : Int), .sl 7 0 (2 * m) (.grow 4), .sl 8 0 (2 * m) (.grow 4)] ++ List.replicate 11 .unk ++ [.sl 9 0 (1 + 4 * m) (.exact (1 + 4 * m)), .unk, .unk, .unk, .ptr 10 0, .bool (som (rl4 U (fun i => fga P' Q' (fl l nL 0) (fl r nR 0) (U i) (fl g nG) (fl h nH) (fl a nA) (fun j => fl b nB (m + j)) m) (fun _ => fun j => fl b nB (m + j)) m x) (2 * m) i), .int .i64 (i : Nat)] ++ List.replicate 195 .unk, [ivb g nG zG, ivb h nH zH, ivb a nA zA, ivb b nB zB, ivb l nL zL, ivb r nR zR, ivb us nU zU, some ⟨.grow, scs (2 * m) (fl g nG)⟩, some ⟨.grow, scs (2 * m) (fl h nH)⟩, some ⟨.rw, scs (1 + 4 * m) (rl4 U (fun i => fga P' Q' (fl l nL 0) (fl r nR 0) (U i) (fl g nG) (fl h nH) (fl a nA) (fun j => fl b nB (m + j)) m) (fun _ => fun j => fl b nB (m + j)) m x)⟩, some ⟨.rw, lc (smk Q' (fl g nG) (fl h nH) (rl4 U (fun i => fga P' Q' (fl l nL 0) (fl r nR 0) (U i) (fl g nG) (fl h nH) (fl a nA) (fun j => fl b nB (m + j)) m) (fun _ => fun j => fl b nB (m + j)) m x) (2 * m) i)⟩]⟩) (2 * m) (fun i hi ih => ?_) ?_)
    · exact hfit_cons rfl bfit_ivb (hfit_cons rfl bfit_ivb (hfit_cons rfl bfit_ivb (hfit_cons rfl bfit_ivb (hfit_cons rfl bfit_ivb (hfit_cons rfl bfit_ivb (hfit_cons rfl bfit_ivb (hfit_cons rfl (jb_g (scs_rens ..)) (hfit_cons rfl (jb_g (scs_rens ..)) (hfit_cons rfl (jb_g (scs_rens ..)) (hfit_cons rfl (jb_g (lc_rens ..)) hfit_nil))))))))))
    · simp only [go_sem, fit, ren, gmap, true_or, or_true]
      rfl
    · have i0 : ((i : Int) < ((2 * m : Nat) : Int)) = True := eq_true (by omega)
      have hw : IntKind.i64.wrap ((i : Int) + 1) = ((i + 1 : Nat) : Int) := by rw [wrap_i64 (by omega) (by omega)]; omega
      have p1 : IntKind.i64.wrap (1 + (i : Int)) = ((1 + i : Nat) : Int) := by rw [wrap_i64 (by omega) (by omega)]; omega
      have p2 : IntKind.i64.wrap (1 + ((2 * m : Nat) : Int)) = ((1 + 2 * m : Nat) : Int) := by rw [wrap_i64 (by omega) (by omega)]; omega
      have p3 : IntKind.i64.wrap (((1 + 2 * m : Nat) : Int) + (i : Int)) = ((1 + 2 * m + i : Nat) : Int) := by rw [wrap_i64 (by omega) (by omega)]; omega
      have l1 : (((1 + i : Nat) : Int) < (((1 + 4 * m) : Nat) : Int)) = True := eq_true (by omega)
      have l3 : (((1 + 2 * m + i : Nat) : Int) < (((1 + 4 * m) : Nat) : Int)) = True := eq_true (by omega)
      have g1 := scs_get' (2 * m) (fl g nG) hi
      have g2 := scs_get' (2 * m) (fl h nH) hi
      have g3 := scs_get' (1 + 4 * m) (rl4 U (fun i => fga P' Q' (fl l nL 0) (fl r nR 0) (U i) (fl g nG) (fl h nH) (fl a nA) (fun j => fl b nB (m + j)) m) (fun _ => fun j => fl b nB (m + j)) m x) (i := 1 + i) (by omega)
      have g4 := scs_get' (1 + 4 * m) (rl4 U (fun i => fga P' Q' (fl l nL 0) (fl r nR 0) (U i) (fl g nG) (fl h nH) (fl a nA) (fun j => fl b nB (m + j)) m) (fun _ => fun j => fl b nB (m + j)) m x) (i := 1 + 2 * m + i) (by omega)
      refine run_loop_eq v3_38.eq_1 ?_
      refine run_driveS 80 ?_
      simp only [go_sem, v3_33, v3_36, i0]
      refine run_drw (by kernel_rfl) ?_
      refine drun_drive 40 (p := (_, _)) ?_
      simp only [go_sem, v3_34, i0, p1, p2, p3, l1, l3, g1, g2, g3, g4, restore, Option.join_some, maskH, List.mapIdx_cons, List.mapIdx_nil, List.contains_cons, List.contains_nil, Bool.or_false, Bool.or_true, Bool.false_or, Bool.true_or, Nat.reduceBEq]
      refine drun_call' ?_
      simp only [go_sem, calV, restore, Option.join_some, maskH, List.mapIdx_cons, List.mapIdx_nil, List.contains_cons, List.contains_nil, Bool.or_false, Bool.or_true, Bool.false_or, Bool.true_or, Nat.reduceBEq]
      refine mul' hG _ _ (hf1 i) (hRl _) ?_
      refine drun_drive 40 (p := (_, _)) ?_
      simp only [go_sem, restore, Option.join_some, maskH, List.mapIdx_cons, List.mapIdx_nil, List.contains_cons, List.contains_nil, Bool.or_false, Bool.or_true, Bool.false_or, Bool.true_or, Nat.reduceBEq]
      refine drun_call' ?_
      simp only [go_sem, calV, restore, Option.join_some, maskH, List.mapIdx_cons, List.mapIdx_nil, List.contains_cons, List.contains_nil, Bool.or_false, Bool.or_true, Bool.false_or, Bool.true_or, Nat.reduceBEq]
      refine add_ hG _ _ (smk_lt ..) (mod_lt _) ?_
      refine drun_drive 40 (p := (_, _)) ?_
      simp only [go_sem, restore, Option.join_some, maskH, List.mapIdx_cons, List.mapIdx_nil, List.contains_cons, List.contains_nil, Bool.or_false, Bool.or_true, Bool.false_or, Bool.true_or, Nat.reduceBEq]
      refine drun_call' ?_
      simp only [go_sem, calV, restore, Option.join_some, maskH, List.mapIdx_cons, List.mapIdx_nil, List.contains_cons, List.contains_nil, Bool.or_false, Bool.or_true, Bool.false_or, Bool.true_or, Nat.reduceBEq]
      refine mul' hG _ _ (hf2 i) (hRl _) ?_
      refine drun_drive 40 (p := (_, _)) ?_
      simp only [go_sem, restore, Option.join_some, maskH, List.mapIdx_cons, List.mapIdx_nil, List.contains_cons, List.contains_nil, Bool.or_false, Bool.or_true, Bool.false_or, Bool.true_or, Nat.reduceBEq]
      refine drun_call' ?_
      simp only [go_sem, calV, restore, Option.join_some, maskH, List.mapIdx_cons, List.mapIdx_nil, List.contains_cons, List.contains_nil, Bool.or_false, Bool.or_true, Bool.false_or, Bool.true_or, Nat.reduceBEq]
      refine add_ hG _ _ (mod_lt _) (mod_lt _) ?_
      refine drun_drive 40 (p := (_, _)) ?_
      simp only [go_sem, restore, Option.join_some, maskH, List.mapIdx_cons, List.mapIdx_nil, List.contains_cons, List.contains_nil, Bool.or_false, Bool.or_true, Bool.false_or, Bool.true_or, Nat.reduceBEq]
      refine drun_end ?_
      have es : som (rl4 U (fun i => fga P' Q' (fl l nL 0) (fl r nR 0) (U i) (fl g nG) (fl h nH) (fl a nA) (fun j => fl b nB (m + j)) m) (fun _ => fun j => fl b nB (m + j)) m x) (2 * m) (i + 1) = (som (rl4 U (fun i => fga P' Q' (fl l nL 0) (fl r nR 0) (U i) (fl g nG) (fl h nH) (fl a nA) (fun j => fl b nB (m + j)) m) (fun _ => fun j => fl b nB (m + j)) m x) (2 * m) i || !decide ((rl4 U (fun i => fga P' Q' (fl l nL 0) (fl r nR 0) (U i) (fl g nG) (fl h nH) (fl a nA) (fun j => fl b nB (m + j)) m) (fun _ => fun j => fl b nB (m + j)) m x) (1 + i) % ell = 0) || !decide ((rl4 U (fun i => fga P' Q' (fl l nL 0) (fl r nR 0) (U i) (fl g nG) (fl h nH) (fl a nA) (fun j => fl b nB (m + j)) m) (fun _ => fun j => fl b nB (m + j)) m x) (1 + 2 * m + i) % ell = 0)) := rfl
      cases hsm : som (rl4 U (fun i => fga P' Q' (fl l nL 0) (fl r nR 0) (U i) (fl g nG) (fl h nH) (fl a nA) (fun j => fl b nB (m + j)) m) (fun _ => fun j => fl b nB (m + j)) m x) (2 * m) i with
      | true =>
        rw [hsm] at es
        rw [show som (rl4 U (fun i => fga P' Q' (fl l nL 0) (fl r nR 0) (U i) (fl g nG) (fl h nH) (fl a nA) (fun j => fl b nB (m + j)) m) (fun _ => fun j => fl b nB (m + j)) m x) (2 * m) (i + 1) = true by rw [es]; rfl] at ih
        refine run_driveS 80 ?_
        simp only [go_sem]
        refine run_driveS 80 ?_
        simp only [go_sem, v3_35, v3_37, hw]
        refine run_rename [0, 1, 2, 3, 4, 5, 6, 7, 8, 9, 10] rfl (by simp) ?_ (uniq_nodup' (by decide)) ?_ ih
        · exact hfit_cons rfl bfit_ivb (hfit_cons rfl bfit_ivb (hfit_cons rfl bfit_ivb (hfit_cons rfl bfit_ivb (hfit_cons rfl bfit_ivb (hfit_cons rfl bfit_ivb (hfit_cons rfl bfit_ivb (hfit_cons rfl (jb_g (scs_rens ..)) (hfit_cons rfl (jb_g (scs_rens ..)) (hfit_cons rfl (jb_g (scs_rens ..)) (hfit_cons rfl (jb_g (lc_rens ..)) hfit_nil))))))))))
        · simp only [go_sem, fit, ren, gmap, true_or, or_true]
      | false =>
        rw [hsm] at es
        refine run_driveS 80 ?_
        simp only [go_sem]
        refine run_driveS 80 ?_
        simp only [go_sem, v3_35, p1, l1, g3]
        refine run_call' rfl ?_
        simp only [go_sem, calV]
        refine is_zero' hG _ (hRl _) ?_
        by_cases z1 : (rl4 U (fun i => fga P' Q' (fl l nL 0) (fl r nR 0) (U i) (fl g nG) (fl h nH) (fl a nA) (fun j => fl b nB (m + j)) m) (fun _ => fun j => fl b nB (m + j)) m x) (1 + i) % ell = 0
        · rw [decide_eq_true z1] at es ⊢
          rw [show som (rl4 U (fun i => fga P' Q' (fl l nL 0) (fl r nR 0) (U i) (fl g nG) (fl h nH) (fl a nA) (fun j => fl b nB (m + j)) m) (fun _ => fun j => fl b nB (m + j)) m x) (2 * m) (i + 1) = !decide ((rl4 U (fun i => fga P' Q' (fl l nL 0) (fl r nR 0) (U i) (fl g nG) (fl h nH) (fl a nA) (fun j => fl b nB (m + j)) m) (fun _ => fun j => fl b nB (m + j)) m x) (1 + 2 * m + i) % ell = 0) by rw [es]; rfl] at ih
          refine run_driveS 80 ?_
          simp only [go_sem, p1, p2, p3, l1, l3, g4]
          refine run_call' rfl ?_
          simp only [go_sem, calV]
          refine is_zero' hG _ (hRl _) ?_
          refine run_driveS 80 ?_
          simp only [go_sem, v3_37, hw]
          refine run_rename [0, 1, 2, 3, 4, 5, 6, 7, 8, 9, 10] rfl (by simp) ?_ (uniq_nodup' (by decide)) ?_ ih
          · exact hfit_cons rfl bfit_ivb (hfit_cons rfl bfit_ivb (hfit_cons rfl bfit_ivb (hfit_cons rfl bfit_ivb (hfit_cons rfl bfit_ivb (hfit_cons rfl bfit_ivb (hfit_cons rfl bfit_ivb (hfit_cons rfl (jb_g (scs_rens ..)) (hfit_cons rfl (jb_g (scs_rens ..)) (hfit_cons rfl (jb_g (scs_rens ..)) (hfit_cons rfl (jb_g (lc_rens ..)) hfit_nil))))))))))
          · simp only [go_sem, fit, ren, gmap, true_or, or_true]
        · rw [decide_eq_false z1] at es ⊢
          rw [show som (rl4 U (fun i => fga P' Q' (fl l nL 0) (fl r nR 0) (U i) (fl g nG) (fl h nH) (fl a nA) (fun j => fl b nB (m + j)) m) (fun _ => fun j => fl b nB (m + j)) m x) (2 * m) (i + 1) = true by rw [es]; rfl] at ih
          refine run_driveS 80 ?_
          simp only [go_sem, v3_37, hw]
          refine run_rename [0, 1, 2, 3, 4, 5, 6, 7, 8, 9, 10] rfl (by simp) ?_ (uniq_nodup' (by decide)) ?_ ih
          · exact hfit_cons rfl bfit_ivb (hfit_cons rfl bfit_ivb (hfit_cons rfl bfit_ivb (hfit_cons rfl bfit_ivb (hfit_cons rfl bfit_ivb (hfit_cons rfl bfit_ivb (hfit_cons rfl bfit_ivb (hfit_cons rfl (jb_g (scs_rens ..)) (hfit_cons rfl (jb_g (scs_rens ..)) (hfit_cons rfl (jb_g (scs_rens ..)) (hfit_cons rfl (jb_g (lc_rens ..)) hfit_nil))))))))))
          · simp only [go_sem, fit, ren, gmap, true_or, or_true]
    · have i0 : (((2 * m : Nat) : Int) < ((2 * m : Nat) : Int)) = False := eq_false (by omega)
      have sd : som (rl4 U (fun i => fga P' Q' (fl l nL 0) (fl r nR 0) (U i) (fl g nG) (fl h nH) (fl a nA) (fun j => fl b nB (m + j)) m) (fun _ => fun j => fl b nB (m + j)) m x) (2 * m) (2 * m) = true := som_dif hd
      rw [sd]
      refine run_loop_eq v3_38.eq_1 ?_
      refine run_driveS 80 ?_
      simp only [go_sem, v3_33, i0]
      refine run_exit rfl ?_
      refine run_driveS 80 ?_
      simp only [go_sem, v3_40]
      refine run_call' rfl ?_
      simp only [go_sem, calV]
      refine is_zero' hG _ (smk_lt ..) ?_
      rw [decide_eq_true (smk_zero (join_relation nz un hn hsol))]
      refine run_driveS 80 ?_
      simp only [go_sem]
      exact run_ret_drop Tryd.func3 res3 [0, 1, 2, 3, 4, 5, 6] (.bool true) [ivb g nG zG, ivb h nH zH, ivb a nA zA, ivb b nB zB, ivb l nL zL, ivb r nR zR, ivb us nU zU] rfl (by simp) (hfit_cons rfl bfit_ivb (hfit_cons rfl bfit_ivb (hfit_cons rfl bfit_ivb (hfit_cons rfl bfit_ivb (hfit_cons rfl bfit_ivb (hfit_cons rfl bfit_ivb (hfit_cons rfl bfit_ivb hfit_nil))))))) (uniq_nodup' (by decide)) rfl ⟨rfl, rfl⟩
  · rw [puts_ro (by simp [wrB]) rfl (by simp)]
    simp only [List.map_cons, List.map_nil, Option.map_some, Option.map_none, renB, scs_rens, rens, ren, gmap, lw_plain, rens_append, lc_rens, List.drop_succ_cons, List.drop_zero, List.cons_append, List.nil_append, List.append_nil, List.length_cons, List.length_nil, Nat.reduceAdd]
    refine run_driveS 80 ?_
    simp only [go_sem]
    refine run_driveS 80 ?_
    simp only [go_sem, v3_23]
    refine run_cond_f (by rfl) ?_
    refine run_driveS 80 ?_
    simp only [go_sem, v3_25]
    refine run_cond_t (by rfl) ?_
    refine run_driveS 80 ?_
    simp only [go_sem, v3_26, stP, st4]
    refine run_call' rfl ?_
    simp only [go_sem, calV]
    have z1 : ∀ f : Nat → Nat, ∀ i, i < 2 * m → ((scs (2 * m) f).drop (0 + i * 4)).take 4 = lc (f i) := fun f i hi => by rw [Nat.zero_add]; exact scs_get' _ _ hi
    have ea : ∀ i, i < 2 * m → ((scs (1 + 4 * m) (kn4 U (fun i => fga P' Q' (fl l nL 0) (fl r nR 0) (U i) (fl g nG) (fl h nH) (fl a nA) (fun j => fl b nB (m + j)) m) (fun _ => fun j => fl b nB (m + j)) m x 1)).drop (4 + i * 4)).take 4 = lc ((kn4 U (fun i => fga P' Q' (fl l nL 0) (fl r nR 0) (U i) (fl g nG) (fl h nH) (fl a nA) (fun j => fl b nB (m + j)) m) (fun _ => fun j => fl b nB (m + j)) m x 1) (1 + i)) := fun i hi => by rw [show 4 + i * 4 = (1 + i) * 4 by omega]; exact scs_get' _ _ (by omega)
    have eb : ∀ i, i < 2 * m → ((scs (1 + 4 * m) (kn4 U (fun i => fga P' Q' (fl l nL 0) (fl r nR 0) (U i) (fl g nG) (fl h nH) (fl a nA) (fun j => fl b nB (m + j)) m) (fun _ => fun j => fl b nB (m + j)) m x 1)).drop ((1 + 2 * m) * 4 + i * 4)).take 4 = lc ((kn4 U (fun i => fga P' Q' (fl l nL 0) (fl r nR 0) (U i) (fl g nG) (fl h nH) (fl a nA) (fun j => fl b nB (m + j)) m) (fun _ => fun j => fl b nB (m + j)) m x 1) (1 + 2 * m + i)) := fun i hi => by rw [show (1 + 2 * m) * 4 + i * 4 = (1 + 2 * m + i) * 4 by omega]; exact scs_get' _ _ (by omega)
    refine vcall_at (Image_ hG Q' hQ (fl g nG) (fl h nH) (fun j => (kn4 U (fun i => fga P' Q' (fl l nL 0) (fl r nR 0) (U i) (fl g nG) (fl h nH) (fl a nA) (fun j => fl b nB (m + j)) m) (fun _ => fun j => fl b nB (m + j)) m x 1) (1 + j)) (fun j => (kn4 U (fun i => fga P' Q' (fl l nL 0) (fl r nR 0) (U i) (fl g nG) (fl h nH) (fl a nA) (fun j => fl b nB (m + j)) m) (fun _ => fun j => fl b nB (m + j)) m x 1) (1 + 2 * m + j)) (2 * m) (fun j _ => hf1 j) (fun j _ => hf2 j) (fun j _ => kac_lt ..) (fun j _ => kac_lt ..) (by omega) (by omega) (scs (2 * m) (fl g nG)) (scs (2 * m) (fl h nH)) (scs (1 + 4 * m) (kn4 U (fun i => fga P' Q' (fl l nL 0) (fl r nR 0) (U i) (fl g nG) (fl h nH) (fl a nA) (fun j => fl b nB (m + j)) m) (fun _ => fun j => fl b nB (m + j)) m x 1)) (scs (1 + 4 * m) (kn4 U (fun i => fga P' Q' (fl l nL 0) (fl r nR 0) (U i) (fl g nG) (fl h nH) (fl a nA) (fun j => fl b nB (m + j)) m) (fun _ => fun j => fl b nB (m + j)) m x 1)) 0 0 4 ((1 + 2 * m) * 4) (z1 _) (z1 _) ea eb (fun f => scs_rens ..) (fun f => scs_rens ..) (fun f => scs_rens ..) (fun f => scs_rens ..) (.grow 4) (.grow 4) (.exact (2 * m)) (.exact (2 * m)) (Q := fun v k => v = .tup [lw (psum (tK (inn (fun j => (kn4 U (fun i => fga P' Q' (fl l nL 0) (fl r nR 0) (U i) (fl g nG) (fl h nH) (fl a nA) (fun j => fl b nB (m + j)) m) (fun _ => fun j => fl b nB (m + j)) m x 1) (1 + j)) (fun j => (kn4 U (fun i => fga P' Q' (fl l nL 0) (fl r nR 0) (U i) (fl g nG) (fl h nH) (fl a nA) (fun j => fl b nB (m + j)) m) (fun _ => fun j => fl b nB (m + j)) m x 1) (1 + 2 * m + j)) (2 * m)) (fun j => (kn4 U (fun i => fga P' Q' (fl l nL 0) (fl r nR 0) (U i) (fl g nG) (fl h nH) (fl a nA) (fun j => fl b nB (m + j)) m) (fun _ => fun j => fl b nB (m + j)) m x 1) (1 + j)) (fun j => (kn4 U (fun i => fga P' Q' (fl l nL 0) (fl r nR 0) (U i) (fl g nG) (fl h nH) (fl a nA) (fun j => fl b nB (m + j)) m) (fun _ => fun j => fl b nB (m + j)) m x 1) (1 + 2 * m + j))) (tK Q' (fl g nG) (fl h nH)) (1 + 2 * (2 * m))), .int .i64 0] ∧ k = [none, none, none, none]) ⟨rfl, rfl⟩) [8, 9, 23, 23] (by simp) ?_ (by simp [uniq, wrB]) ?_ ?_
    · exact hfit_cons rfl (jb_ro (scs_rens ..)) (hfit_cons rfl (jb_ro (scs_rens ..)) (hfit_cons rfl (jb_ro (scs_rens ..)) (hfit_cons rfl (jb_ro (scs_rens ..)) hfit_nil)))
    · simp only [rens, ren, gmap, lw_plain]
    rintro v k ⟨rfl, rfl⟩
    rw [puts_ro (by simp [wrB]) rfl (by simp)]
    simp only [List.map_cons, List.map_nil, Option.map_some, Option.map_none, renB, scs_rens, rens, ren, gmap, lw_plain, rens_append, lc_rens, List.drop_succ_cons, List.drop_zero, List.cons_append, List.nil_append, List.append_nil, List.length_cons, List.length_nil, Nat.reduceAdd]
    refine run_driveS 80 ?_
    simp only [go_sem]
    refine run_driveS 80 ?_
    simp only [go_sem, v3_27, st0]
    refine run_call' rfl ?_
    simp only [go_sem, calV]
    refine line_same hG _ _ (psum_lt ..) hP ?_
    rw [decide_eq_true (join_image nz un hn hsol hd)]
    refine run_driveS 80 ?_
    simp only [go_sem]
    exact run_ret_drop Tryd.func3 res3 [0, 1, 2, 3, 4, 5, 6] (.bool true) [ivb g nG zG, ivb h nH zH, ivb a nA zA, ivb b nB zB, ivb l nL zL, ivb r nR zR, ivb us nU zU] rfl (by simp) (hfit_cons rfl bfit_ivb (hfit_cons rfl bfit_ivb (hfit_cons rfl bfit_ivb (hfit_cons rfl bfit_ivb (hfit_cons rfl bfit_ivb (hfit_cons rfl bfit_ivb (hfit_cons rfl bfit_ivb hfit_nil))))))) (uniq_nodup' (by decide)) rfl ⟨rfl, rfl⟩
end
section
attribute [local go_sem ↓] lc_len lc_take lc_drop lc_known lc_one lc_rens lc_cells lw_known lw_agg lw_asG scs_known scs_one scs_len lc_take_add lc_drop_add ivl_known ivl_one
attribute [local go_sem] lt_nat lt_natl lt_lnat lt_ll bool_tf bool_ft
set_option maxRecDepth 100000
set_option maxHeartbeats 2000000
theorem law_start_ (hG : G 0 = tbl) (g h a b l r us : Nat → Nat) (Q' P' nG mG nH mH nA mA nB mB nL mL nR mR nU mU : Nat) (zG zH zA zB zL zR zU : Bool) (C : List V) (cC : CaseC C Q' P' nG mG nH mH nA mA nB mB nL mL nR mR nU mU zG zH zA zB zL zR zU)
    (hg : ∀ j, g j < 115792089237316195423570985008687907853269984665640564039457584007913129639936) (hh : ∀ j, h j < 115792089237316195423570985008687907853269984665640564039457584007913129639936) (ha : ∀ j, a j < 115792089237316195423570985008687907853269984665640564039457584007913129639936) (hb : ∀ j, b j < 115792089237316195423570985008687907853269984665640564039457584007913129639936) (hl : ∀ j, l j < 115792089237316195423570985008687907853269984665640564039457584007913129639936) (hr : ∀ j, r j < 115792089237316195423570985008687907853269984665640564039457584007913129639936) (hus : ∀ j, us j < 115792089237316195423570985008687907853269984665640564039457584007913129639936) (hQ : Q' < 115792089237316195423570985008687907853269984665640564039457584007913129639936) (hP : P' < 115792089237316195423570985008687907853269984665640564039457584007913129639936)
    (oG : Ok nG mG zG) (oH : Ok nH mH zH) (oA : Ok nA mA zA) (oB : Ok nB mB zB) (oL : Ok nL mL zL) (oR : Ok nR mR zR) (oU : Ok nU mU zU) (sG : nG < 9223372036854775808) (sH : nH < 9223372036854775808) (sA : nA < 9223372036854775808) (sB : nB < 9223372036854775808) (sL : nL < 9223372036854775808) (sR : nR < 9223372036854775808) (sU : nU < 9223372036854774000)
    (m : Nat) (hm : 0 < m) (hm4 : m ≤ 4) (hpw : ∃ k : Nat, k ≤ 10 ∧ 2 * m = 2 ^ k) : RunM Tryd.prog G 3 7 {} (fun v k => v = .bool true ∧ k = [ivb g nG zG, ivb h nH zH, ivb a nA zA, ivb b nB zB, ivb l nL zL, ivb r nR zR, ivb us nU zU]) ([TI.c ((VC.reg v3_4).seq ((VC.reg v3_5).seq ((VC.drw v3_6).seq ((VC.reg v3_7).seq ((VC.reg v3_8).seq ((VC.reg v3_9).seq ((VC.reg v3_10).seq (((VC.reg v3_11).seq (VC.block 0 v3_21)).seq ((VC.reg v3_22).seq (((VC.reg v3_23).seq (VC.cond (Go.Vs.A.t 111) ((VC.reg v3_24).seq VC.ret) VC.skip)).seq (((VC.reg v3_25).seq (VC.cond (Go.Vs.A.t 114) ((VC.reg v3_26).seq ((VC.reg v3_27).seq VC.ret)) VC.skip)).seq (((VC.reg v3_28).seq (VC.cond (Go.Vs.A.t 148) ((VC.reg v3_29).seq VC.ret) VC.skip)).seq ((VC.drw v3_30).seq ((VC.reg v3_31).seq (((VC.reg v3_32).seq (VC.block 2 v3_39)).seq ((VC.reg v3_40).seq VC.ret))))))))))))))))], ⟨[.unk, .ptr 7 0, .bool false, .int .i64 ((2 * m : Nat) : Int)] ++ List.replicate 215 .unk, [ivb g nG zG, ivb h nH zH, ivb a nA zA, ivb b nB zB, ivb l nL zL, ivb r nR zR, ivb us nU zU, some ⟨.rw, C⟩]⟩) := by
  have cl := cC.len
  have hf5 := fl_lt hl nL
  have hf6 := fl_lt hr nR
  have cg := cC.g
  have ch := cC.h
  have cp := cC.p
  have cq := cC.q
  have cL := cC.l
  have cR := cC.r
  have cu := cC.u
  have b8 : ∀ (a b : Nat) (x0 x1 : V), List.take 8 (lc a ++ lc b ++ [x0, x1]) = lc a ++ lc b := fun _ _ _ _ => rfl
  have b9 : ∀ (a b : Nat) (x0 x1 : V), List.drop 9 (lc a ++ lc b ++ [x0, x1]) = [x1] := fun _ _ _ _ => rfl
  have b9' : ∀ (a b : Nat) (x y : V), List.take 9 (lc a ++ lc b ++ [x] ++ [y]) = lc a ++ lc b ++ [x] := fun _ _ _ _ => rfl
  have b10 : ∀ (a b : Nat) (x y : V), List.drop 10 (lc a ++ lc b ++ [x] ++ [y]) = [] := fun _ _ _ _ => rfl
  have b8' : ∀ (a : Nat) (x0 x1 x2 x3 x4 x5 : V), List.drop 8 (lc a ++ [x0, x1, x2, x3, x4, x5]) = [x4, x5] := fun _ _ _ _ _ _ _ => rfl
  have b10' : ∀ (a b : Nat) (x y : V), List.take 10 (lc a ++ lc b ++ [x] ++ [y]) = lc a ++ lc b ++ [x] ++ [y] := fun _ _ _ _ => rfl
  refine run_driveS 80 ?_
  simp only [go_sem, v3_4, cg, cl]
  refine run_call' rfl ?_
  simp only [go_sem, calV]
  refine fill_at g hg nG mG (2 * m) zG oG (by omega) (by omega) sG 0 rfl ?_
  refine run_driveS 80 ?_
  simp only [go_sem]
  refine run_call' rfl ?_
  simp only [go_sem, calV]
  refine line_of_at (fl g nG) (2 * m) (by omega) (by omega) (.grow 4) 8 rfl rfl ?_
  refine run_driveS 80 ?_
  simp only [go_sem]
  refine run_driveS 80 ?_
  simp only [go_sem, v3_5, ch, cl]
  refine run_call' rfl ?_
  simp only [go_sem, calV]
  refine fill_at h hh nH mH (2 * m) zH oH (by omega) (by omega) sH 1 rfl ?_
  refine run_driveS 80 ?_
  simp only [go_sem]
  refine run_call' rfl ?_
  simp only [go_sem, calV]
  refine line_of_at (fl h nH) (2 * m) (by omega) (by omega) (.grow 4) 10 rfl rfl ?_
  refine run_driveS 80 ?_
  simp only [go_sem]
  refine run_drw (by kernel_rfl) ?_
  refine drun_drive 40 (p := (_, _)) ?_
  simp only [go_sem, v3_6, cp, cq, cl, restore, Option.join_some, maskH, List.mapIdx_cons, List.mapIdx_nil, List.contains_cons, List.contains_nil, Bool.or_false, Bool.or_true, Bool.false_or, Bool.true_or, Nat.reduceBEq]
  refine drun_call' ?_
  simp only [go_sem, calV, restore, Option.join_some, maskH, List.mapIdx_cons, List.mapIdx_nil, List.contains_cons, List.contains_nil, Bool.or_false, Bool.or_true, Bool.false_or, Bool.true_or, Nat.reduceBEq]
  refine line_ P' ?_
  refine drun_drive 40 (p := (_, _)) ?_
  simp only [go_sem, cp, cq, cl, restore, Option.join_some, maskH, List.mapIdx_cons, List.mapIdx_nil, List.contains_cons, List.contains_nil, Bool.or_false, Bool.or_true, Bool.false_or, Bool.true_or, Nat.reduceBEq]
  refine drun_call' ?_
  simp only [go_sem, calV, restore, Option.join_some, maskH, List.mapIdx_cons, List.mapIdx_nil, List.contains_cons, List.contains_nil, Bool.or_false, Bool.or_true, Bool.false_or, Bool.true_or, Nat.reduceBEq]
  refine line_ Q' ?_
  refine drun_drive 40 (p := (_, _)) ?_
  simp only [go_sem, cp, cq, cl, b8, b9, b9', b10, b8', restore, Option.join_some, maskH, List.mapIdx_cons, List.mapIdx_nil, List.contains_cons, List.contains_nil, Bool.or_false, Bool.or_true, Bool.false_or, Bool.true_or, Nat.reduceBEq]
  refine drun_end ?_
  refine run_driveS 80 ?_
  simp only [go_sem, v3_7, cL, cl]
  refine run_call' rfl ?_
  simp only [go_sem, calV]
  refine fill_at l hl nL mL 1 zL oL (by omega) (by omega) sL 4 rfl ?_
  refine run_driveS 80 ?_
  simp only [go_sem]
  refine run_call' rfl ?_
  simp only [go_sem, calV]
  refine line_of_at (fl l nL) 1 (by omega) (by omega) (.grow 4) 13 rfl rfl ?_
  have s1 : ∀ f : Nat → Nat, (scs 1 f).take 4 = lc (f 0) := fun _ => rfl
  refine run_driveS 80 ?_
  simp only [go_sem, s1]
  refine run_driveS 80 ?_
  simp only [go_sem, v3_8, cR, cl]
  refine run_call' rfl ?_
  simp only [go_sem, calV]
  refine fill_at r hr nR mR 1 zR oR (by omega) (by omega) sR 5 rfl ?_
  refine run_driveS 80 ?_
  simp only [go_sem]
  refine run_call' rfl ?_
  simp only [go_sem, calV]
  refine line_of_at (fl r nR) 1 (by omega) (by omega) (.grow 4) 16 rfl rfl ?_
  refine run_driveS 80 ?_
  simp only [go_sem, s1]
  refine run_driveS 80 ?_
  simp only [go_sem, v3_9, cu, cl]
  refine run_call' rfl ?_
  simp only [go_sem, calV]
  refine vcall_at (unlike_ hG us hus nU sU (ivl 0 nU mU zU) (ivb us nU zU) (In_iv oU) (Q := fun v k => ∃ o : Nat → Nat, (∀ j, o j < 115792089237316195423570985008687907853269984665640564039457584007913129639936) ∧ (∀ j, j < 4 → o j % ell ≠ 0) ∧ (∀ j k, j < 4 → k < 4 → j ≠ k → o j * o j % ell ≠ o k * o k % ell) ∧ v = .sl 1 0 4 (.grow 4) ∧ k = [ivb us nU zU, some ⟨.grow, scs 4 o⟩]) fun o a b c => ⟨o, a, b, c, rfl, rfl⟩) [6] (by simp) (hfit_cons rfl bfit_ivb hfit_nil) (uniq_nodup' (by decide)) (by simp only [rens, ren, ivl_ren, gmap]) ?_
  rintro v k ⟨U, hU, nz, un, rfl, rfl⟩
  rw [puts_ro (by simp [wrB_ivb]) rfl (by simp)]
  simp only [List.map_cons, List.map_nil, Option.map_some, Option.map_none, renB, scs_rens, rens, ren, gmap, lw_plain, rens_append, lc_rens, List.drop_succ_cons, List.drop_zero, List.cons_append, List.nil_append, List.append_nil, List.length_cons, List.length_nil, Nat.reduceAdd]
  refine run_driveS 80 ?_
  simp only [go_sem]
  refine run_driveS 80 ?_
  simp only [go_sem, v3_10]
  refine run_driveS 80 ?_
  simp only [go_sem, v3_11, v3_21]
  refine run_rename [0, 1, 2, 3, 4, 5, 6, 7, 9, 11, 12, 15, 18, 19] (st' := ⟨[.unk, .ptr 7 0, .bool false, .int .i64 ((2 * m : Nat) : Int), .sl 8 0 (2 * m) (.grow 4), .sl 9 0 (2 * m) (.grow 4), .ptr 10 0, .ptr 11 0, .ptr 12 0, .sl 13 0 4 (.grow 4), .nils, .int .i64 (0 : Nat)] ++ List.replicate 207 .unk, [ivb g nG zG, ivb h nH zH, ivb a nA zA, ivb b nB zB, ivb l nL zL, ivb r nR zR, ivb us nU zU, some ⟨.rw, C⟩, some ⟨.grow, scs (2 * m) (fl g nG)⟩, some ⟨.grow, scs (2 * m) (fl h nH)⟩, some ⟨.rw, lc P' ++ lc Q' ++ [.sl 8 0 (2 * m) (.grow 4), .sl 9 0 (2 * m) (.grow 4)]⟩, some ⟨.rw, lc (fl l nL 0)⟩, some ⟨.rw, lc (fl r nR 0)⟩, some ⟨.grow, scs 4 U⟩]⟩) rfl (by simp) ?_ (uniq_nodup' (by decide)) ?_ (law_rounds_ hG g h a b l r us Q' P' nG mG nH mH nA mA nB mB nL mL nR mR nU mU zG zH zA zB zL zR zU C cC hg hh ha hb hl hr hus hQ hP oG oH oA oB oL oR oU sG sH sA sB sL sR sU m hm hm4 hpw U hU nz un (law_end_ hG g h a b l r us Q' P' nG mG nH mH nA mA nB mB nL mL nR mR nU mU zG zH zA zB zL zR zU C cC hg hh ha hb hl hr hus hQ hP oG oH oA oB oL oR oU sG sH sA sB sL sR sU m hm hm4 hpw U hU nz un))
  · exact hfit_cons rfl bfit_ivb (hfit_cons rfl bfit_ivb (hfit_cons rfl bfit_ivb (hfit_cons rfl bfit_ivb (hfit_cons rfl bfit_ivb (hfit_cons rfl bfit_ivb (hfit_cons rfl bfit_ivb (hfit_cons rfl (jb_g (cC.ren _ fun i hi => gm_7 _ rfl i hi)) (hfit_cons rfl (jb_g (scs_rens ..)) (hfit_cons rfl (jb_g (scs_rens ..)) (hfit_cons rfl (jb_rw (by simp only [rens_append, lc_rens, rens, ren, gmap, List.append_assoc]; rfl)) (hfit_cons rfl (jb_g (lc_rens ..)) (hfit_cons rfl (jb_g (lc_rens ..)) (hfit_cons rfl (jb_g (scs_rens ..)) hfit_nil)))))))))))))
  · simp only [go_sem, fit, ren, gmap, true_or, or_true]
theorem law_forged (hG : G 0 = tbl) (g h a b l r us : Nat → Nat) (Q' P' nG mG nH mH nA mA nB mB nL mL nR mR nU mU : Nat) (zG zH zA zB zL zR zU : Bool) (C : List V) (cC : CaseC C Q' P' nG mG nH mH nA mA nB mB nL mL nR mR nU mU zG zH zA zB zL zR zU)
    (hg : ∀ j, g j < 115792089237316195423570985008687907853269984665640564039457584007913129639936) (hh : ∀ j, h j < 115792089237316195423570985008687907853269984665640564039457584007913129639936) (ha : ∀ j, a j < 115792089237316195423570985008687907853269984665640564039457584007913129639936) (hb : ∀ j, b j < 115792089237316195423570985008687907853269984665640564039457584007913129639936) (hl : ∀ j, l j < 115792089237316195423570985008687907853269984665640564039457584007913129639936) (hr : ∀ j, r j < 115792089237316195423570985008687907853269984665640564039457584007913129639936) (hus : ∀ j, us j < 115792089237316195423570985008687907853269984665640564039457584007913129639936) (hQ : Q' < 115792089237316195423570985008687907853269984665640564039457584007913129639936) (hP : P' < 115792089237316195423570985008687907853269984665640564039457584007913129639936)
    (oG : Ok nG mG zG) (oH : Ok nH mH zH) (oA : Ok nA mA zA) (oB : Ok nB mB zB) (oL : Ok nL mL zL) (oR : Ok nR mR zR) (oU : Ok nU mU zU) (sG : nG < 9223372036854775808) (sH : nH < 9223372036854775808) (sA : nA < 9223372036854775808) (sB : nB < 9223372036854775808) (sL : nL < 9223372036854775808) (sR : nR < 9223372036854775808) (sU : nU < 9223372036854774000) : VCall Tryd.prog G 3 [.agg C] [ivb g nG zG, ivb h nH zH, ivb a nA zA, ivb b nB zB, ivb l nL zL, ivb r nR zR, ivb us nU zU] (fun v k => v = .bool true ∧ k = [ivb g nG zG, ivb h nH zH, ivb a nA zA, ivb b nB zB, ivb l nL zL, ivb r nR zR, ivb us nU zU]) := by
  have cl := cC.len
  have cg := cC.g
  have ck := cC.kn
  have c26 := cC.t26
  refine vcall_body Tryd.func3 nm3 code3 nt3 ?_
  have hlen : lenO (ivl 0 nG mG zG) = some nG := by
    cases zG with
    | false => rfl
    | true => rw [oG.2 rfl]; rfl
  refine run_driveS 80 ?_
  simp only [go_sem, v3, v3_0, v3_1, ck, cg, cl, hlen]
  refine run_call' rfl ?_
  simp only [go_sem, calV]
  refine vcall_at (size_ nG sG (Q := fun v k => ∃ n : Nat, (n = 1 ∨ n = 2 ∨ n = 4 ∨ n = 8) ∧ v = .int .i64 n ∧ k = []) fun n hn => ⟨n, hn, rfl, rfl⟩) [] (by simp) hfit_nil (uniq_nodup' (by decide)) rfl ?_
  rintro v k ⟨n, hn, rfl, rfl⟩
  rw [puts_ro (by simp) rfl (by simp)]
  simp only [List.map_nil, List.drop_zero, List.append_nil, List.length_nil, ren]
  rcases hn with rfl | rfl | rfl | rfl
  · refine run_driveS 80 ?_
    simp only [go_sem]
    refine run_driveS 80 ?_
    simp only [go_sem, v3_2]
    refine run_cond_t (by rfl) ?_
    refine run_driveS 3 ?_
    simp only [go_sem, v3_3]
    refine run_rename [0, 1, 2, 3, 4, 5, 6, 7] rfl (by simp) ?_ (uniq_nodup' (by decide)) ?_ (law_start_ hG g h a b l r us Q' P' nG mG nH mH nA mA nB mB nL mL nR mR nU mU zG zH zA zB zL zR zU C cC hg hh ha hb hl hr hus hQ hP oG oH oA oB oL oR oU sG sH sA sB sL sR sU 1 (by decide) (by decide) ⟨1, by decide, by decide⟩)
    · exact hfit_cons rfl bfit_ivb (hfit_cons rfl bfit_ivb (hfit_cons rfl bfit_ivb (hfit_cons rfl bfit_ivb (hfit_cons rfl bfit_ivb (hfit_cons rfl bfit_ivb (hfit_cons rfl bfit_ivb (hfit_cons rfl (jb_g (cC.ren _ fun i hi => gm_7 _ rfl i hi)) hfit_nil)))))))
    · simp only [go_sem, fit, ren, gmap, true_or, or_true]
  · refine run_driveS 80 ?_
    simp only [go_sem]
    refine run_driveS 80 ?_
    simp only [go_sem, v3_2]
    refine run_cond_f (by rfl) ?_
    refine run_driveS 1 ?_
    simp only [go_sem]
    refine run_rename [0, 1, 2, 3, 4, 5, 6, 7] rfl (by simp) ?_ (uniq_nodup' (by decide)) ?_ (law_start_ hG g h a b l r us Q' P' nG mG nH mH nA mA nB mB nL mL nR mR nU mU zG zH zA zB zL zR zU C cC hg hh ha hb hl hr hus hQ hP oG oH oA oB oL oR oU sG sH sA sB sL sR sU 1 (by decide) (by decide) ⟨1, by decide, by decide⟩)
    · exact hfit_cons rfl bfit_ivb (hfit_cons rfl bfit_ivb (hfit_cons rfl bfit_ivb (hfit_cons rfl bfit_ivb (hfit_cons rfl bfit_ivb (hfit_cons rfl bfit_ivb (hfit_cons rfl bfit_ivb (hfit_cons rfl (jb_g (cC.ren _ fun i hi => gm_7 _ rfl i hi)) hfit_nil)))))))
    · simp only [go_sem, fit, ren, gmap, true_or, or_true]
  · refine run_driveS 80 ?_
    simp only [go_sem]
    refine run_driveS 80 ?_
    simp only [go_sem, v3_2]
    refine run_cond_f (by rfl) ?_
    refine run_driveS 1 ?_
    simp only [go_sem]
    refine run_rename [0, 1, 2, 3, 4, 5, 6, 7] rfl (by simp) ?_ (uniq_nodup' (by decide)) ?_ (law_start_ hG g h a b l r us Q' P' nG mG nH mH nA mA nB mB nL mL nR mR nU mU zG zH zA zB zL zR zU C cC hg hh ha hb hl hr hus hQ hP oG oH oA oB oL oR oU sG sH sA sB sL sR sU 2 (by decide) (by decide) ⟨2, by decide, by decide⟩)
    · exact hfit_cons rfl bfit_ivb (hfit_cons rfl bfit_ivb (hfit_cons rfl bfit_ivb (hfit_cons rfl bfit_ivb (hfit_cons rfl bfit_ivb (hfit_cons rfl bfit_ivb (hfit_cons rfl bfit_ivb (hfit_cons rfl (jb_g (cC.ren _ fun i hi => gm_7 _ rfl i hi)) hfit_nil)))))))
    · simp only [go_sem, fit, ren, gmap, true_or, or_true]
  · refine run_driveS 80 ?_
    simp only [go_sem]
    refine run_driveS 80 ?_
    simp only [go_sem, v3_2]
    refine run_cond_f (by rfl) ?_
    refine run_driveS 1 ?_
    simp only [go_sem]
    refine run_rename [0, 1, 2, 3, 4, 5, 6, 7] rfl (by simp) ?_ (uniq_nodup' (by decide)) ?_ (law_start_ hG g h a b l r us Q' P' nG mG nH mH nA mA nB mB nL mL nR mR nU mU zG zH zA zB zL zR zU C cC hg hh ha hb hl hr hus hQ hP oG oH oA oB oL oR oU sG sH sA sB sL sR sU 4 (by decide) (by decide) ⟨3, by decide, by decide⟩)
    · exact hfit_cons rfl bfit_ivb (hfit_cons rfl bfit_ivb (hfit_cons rfl bfit_ivb (hfit_cons rfl bfit_ivb (hfit_cons rfl bfit_ivb (hfit_cons rfl bfit_ivb (hfit_cons rfl bfit_ivb (hfit_cons rfl (jb_g (cC.ren _ fun i hi => gm_7 _ rfl i hi)) hfit_nil)))))))
    · simp only [go_sem, fit, ren, gmap, true_or, or_true]
end
end Go.Vs.Tryd
namespace Go.Vs.Tryd
open Go.Proofs
variable {G : Nat → List V}
set_option linter.unusedSimpArgs false
attribute [local go_sem] lenO_nils lenO_sl sliceAtV Int.sub_zero List.length_append List.all_append ge_iff_le gt_iff_lt Int.natCast_nonneg Int.toNat_natCast Nat.mul_one b_and_ll b_shr_ll b_mul_ll b_add_ll b_or_ll b_shl_ll pick_ll pick_lc pick_bb driveS stopV Option.isSome_some Option.isSome_none Kind.m Kind.w Kind.g look_ro look_rw look_grow drive stepV exo expo evs fillV isNil nilKind eqV eqL optA optM sliceAtV ev kn ldc stc splice appV srcV lenV setd wantV exitV rvs rv one List.length_cons List.length_nil List.cons_append List.nil_append List.append_nil List.replicate List.getD_cons_zero List.getD_cons_succ List.set_cons_zero List.set_cons_succ List.getElem?_cons_zero List.getElem?_cons_succ List.getElem?_nil List.take_succ_cons List.take_zero List.take_nil List.drop_succ_cons List.drop_zero List.drop_nil List.all_cons List.all_nil List.any_cons List.any_nil Bool.and_true Bool.true_and Bool.and_self Option.map_some Option.map_none Option.bind_some Option.some.injEq Nat.add_zero Nat.zero_add Int.toNat_zero Int.toNat_one Int.zero_add Int.add_zero if_true if_false ite_true ite_false and_true true_and and_self ne_eq not_false_eq_true not_true_eq_false decide_true decide_false Bool.false_eq_true Bool.not_true Bool.not_false beq_self_eq_true BEq.rfl Bool.not_eq_true Nat.le_refl Int.le_refl Nat.zero_le List.foldl List.map_cons List.map_nil Prod.mk.injEq Int.cast_ofNat_Int Int.zero_le_ofNat b_add_cc b_add_cl b_add_lc b_mul_cc b_mul_cl b_mul_lc b_sub_cc b_sub_cl b_sub_lc b_and_cc b_and_cl b_and_lc b_or_cc b_or_cl b_or_lc b_xor_cc b_xor_cl b_xor_lc b_andNot_cc b_andNot_cl b_andNot_lc b_shr_cc b_shr_cl b_shr_lc b_shl_cc b_shl_cl b_shl_lc b_lss b_leq b_gtr b_geq b_add_i b_sub_i b_mul_i beq_cc beq_cl beq_lc beq_ll b_quo_i b_rem_i neg_u64 wrap_i64 driveD stepD idsAt idOf maskH_nil restore_nil restore_mask List.filterMap_nil List.filterMap_cons VOp.looks VOp.makes exA cells_agg cells_int cells_bool cells_str cells_nilp cells_ptr cells_glob cells_nils cells_sl cells_nilf cells_fn cells_nili cells_ifc known_agg known_tup known_int known_bool known_str known_nilp known_ptr known_glob known_nils known_sl known_nilf known_fn known_nili known_ifc known_unk one_agg one_tup one_int one_bool one_str one_nilp one_ptr one_glob one_nils one_sl one_nilf one_fn one_nili one_ifc asK_int asN_int asB_bool asS_str asG_agg asT_tup true_or or_true false_or or_false
set_option maxRecDepth 100000
theorem case_c (Q' P' nG mG nH mH nA mA nB mB nL mL nR mR nU mU : Nat) (zG zH zA zB zL zR zU : Bool) (ea eb : Nat) (sc lab n : V) (k1 : sc.known = true) (k2 : lab.known = true) (k3 : n.known = true) (o1 : sc.one = true) (o2 : lab.one = true) (o3 : n.one = true) (r1 : ∀ f, ren f sc = sc) (r2 : ∀ f, ren f lab = lab) (r3 : ∀ f, ren f n = n) :
    CaseC (cas Q' P' (ivl 0 nG mG zG) (ivl 1 nH mH zH) (ivl 2 nA mA zA) (ivl 3 nB mB zB) (ivl 4 nL mL zL) (ivl 5 nR mR zR) ea eb sc (ivl 6 nU mU zU) lab n) Q' P' nG mG nH mH nA mA nB mB nL mL nR mR nU mU zG zH zA zB zL zR zU := by
  refine ⟨rfl, ?_, ?_, rfl, rfl, rfl, rfl, rfl, rfl, rfl, rfl, rfl, rfl, rfl, fun f hf => ?_⟩
  · unfold cas
    simp only [List.all_append, List.all_cons, List.all_nil, lc_known, ivl_known, k1, k2, k3, Bool.and_self]
  · unfold cas
    simp only [List.all_append, List.all_cons, List.all_nil, lc_one, ivl_one, o1, o2, o3, Bool.and_self]
  · unfold cas
    simp only [rens_append, lc_rens, rens, ivl_ren, r1, r2, r3, hf 0 (by decide), hf 1 (by decide), hf 2 (by decide), hf 3 (by decide), hf 4 (by decide), hf 5 (by decide), hf 6 (by decide)]
end Go.Vs.Tryd
namespace Go.Vs.Tryd
open Go.Proofs Go.ChangeShapes Go.WideShapes Go.ChangeAt Go.RowKit
def num (z : Nat → Nat) : Nat := z 0 + 18446744073709551616 * z 1 + 340282366920938463463374607431768211456 * z 2 + 6277101735386680763835789423207666416102355444464034512896 * z 3
theorem lc_num {z : Nat → Nat} (h : ∀ k, z k < 18446744073709551616) : lc (num z) = [.int .u64 (z 0 : Int), .int .u64 (z 1 : Int), .int .u64 (z 2 : Int), .int .u64 (z 3 : Int)] := (lc_of (h 0) (h 1) (h 2) (h 3)).symm
theorem num_lt {z : Nat → Nat} (h : ∀ k, z k < 18446744073709551616) : num z < 115792089237316195423570985008687907853269984665640564039457584007913129639936 := by
  have h0 := h 0; have h1 := h 1; have h2 := h 2; have h3 := h 3
  unfold num
  omega
theorem sim_cells {W : World} {a : Addr} (hs : a.spot = none) (z : Nat → Nat → Nat) (hz : ∀ i k, z i k < 18446744073709551616) : ∀ (n : Nat), (∀ i, i < n → ∀ k, k < 4 → W.cell? (a.add (i * 4 + k)) = some (.int .u64 (z i k : Int))) →
    ∀ (j : Nat) (v : V), (scs n fun i => num (z i))[j]? = some v → ∃ x : Int, v = .int .u64 x ∧ W.cell? ⟨a.block, a.off + j, none⟩ = some (.int .u64 x)
  | 0, _, j, v, hj => by simp [scs, row] at hj
  | n + 1, h, j, v, hj => by
    have hlen := scs_len n fun i => num (z i)
    have e : (scs (n + 1) fun i => num (z i)) = (scs n fun i => num (z i)) ++ lc (num (z n)) := rfl
    rw [e] at hj
    rcases Nat.lt_or_ge j (n * 4) with hlt | hge
    · rw [List.getElem?_append_left (by rw [hlen]; exact hlt)] at hj
      exact sim_cells hs z hz n (fun i hi => h i (by omega)) j v hj
    · rw [List.getElem?_append_right (by rw [hlen]; exact hge), hlen, lc_num (hz n)] at hj
      have key : ∀ k, k < 4 → j - n * 4 = k → W.cell? ⟨a.block, a.off + j, none⟩ = some (.int .u64 (z n k : Int)) := by
        intro k hk e
        have := h n (Nat.lt_succ_self n) k hk
        rw [show n * 4 + k = j by omega] at this
        obtain ⟨b, o, sp⟩ := a
        simp only at hs
        subst hs
        rw [Addr.add_lit] at this
        exact this
      have : j - n * 4 < 4 := by
        have := (List.getElem?_eq_some_iff.1 hj).1
        simpa using this
      have : j - n * 4 = 0 ∨ j - n * 4 = 1 ∨ j - n * 4 = 2 ∨ j - n * 4 = 3 := by omega
      rcases this with e | e | e | e <;> rw [e] at hj <;> simp at hj <;> subst hj
      · exact ⟨_, rfl, key 0 (by omega) e⟩
      · exact ⟨_, rfl, key 1 (by omega) e⟩
      · exact ⟨_, rfl, key 2 (by omega) e⟩
      · exact ⟨_, rfl, key 3 (by omega) e⟩
def GlobsOk (G : Nat → List V) (W : World) : Prop := (∀ g o v, (G g)[o]? = some v → v ≠ .unk → ∃ r, conc [] v = some r ∧ W.cell? ⟨g, o, none⟩ = some r) ∧ ∀ g, W.heap.size ≤ g → G g = []
def RoB (W : World) (b : Option Blk) (p : Option Pl) : Prop :=
  b = none ∨ ∃ cs q, b = some ⟨.ro, cs⟩ ∧ p = some q ∧ q.block < W.heap.size ∧ cs.length ≤ q.size ∧ ∀ (j : Nat) v, cs[j]? = some v → v ≠ .unk → ∃ r, conc [] v = some r ∧ W.cell? ⟨q.block, q.base + j, none⟩ = some r
theorem sim_ro {G : Nat → List V} {W : World} (hG : GlobsOk G W) {ρ : Rho} {h : Heap} (hl : ρ.length = h.length) (hb : ∀ i b, h[i]? = some b → RoB W b (place ρ i)) : Sim G ρ h W := by
  have key : ∀ i b, Live h i b → ∃ q, b.kind = .ro ∧ place ρ i = some q ∧ q.block < W.heap.size ∧ b.cells.length ≤ q.size ∧ ∀ (j : Nat) v, b.cells[j]? = some v → v ≠ .unk → ∃ r, conc [] v = some r ∧ W.cell? ⟨q.block, q.base + j, none⟩ = some r := by
    intro i b hi
    rcases hb i (some b) hi with e | ⟨cs, q, e, h1, h2, h3, h4⟩
    · cases e
    · cases e; exact ⟨q, rfl, h1, h2, h3, h4⟩
  refine ⟨hl, fun i b h => ?_, fun i b r h hp _ j v hj hu => ?_, fun i b r h hp => ?_, fun i b r h hp hk => ?_, fun i j bi bj pi pj hij hi hj h1 h2 h3 => ?_, hG.1, hG.2, fun i b p r h hp hk => ?_⟩
  · obtain ⟨q, _, h1, _⟩ := key i b h
    exact ⟨q, h1⟩
  · obtain ⟨q, _, h1, _, _, h4⟩ := key i b h
    obtain rfl := Option.some.inj (h1.symm.trans hp)
    obtain ⟨x, e1, e2⟩ := h4 j v hj hu
    exact ⟨x, conc_ext (fun i p hp => by simp [place] at hp) _ _ e1, e2⟩
  · obtain ⟨q, _, h1, h2, h3, _⟩ := key i b h
    obtain rfl := Option.some.inj (h1.symm.trans hp)
    exact ⟨h2, h3⟩
  · obtain ⟨q, h0, _⟩ := key i b h
    rw [h0] at hk; cases hk
  · obtain ⟨q, h0, _⟩ := key i bi hi
    exact absurd h0 h3
  · obtain ⟨q, h0, _⟩ := key i b h
    rw [h0] at hk; cases hk
theorem globs_one {P : Program} {W : World} {name : String} {g : Nat} (hg : P.globalNamed name = some g) {rs : Array Value} (h : W.var? P name = some rs) {cs : List V} (hc : concs [] cs = some rs.toList) : GlobsOk (fun k => if k = g then cs else []) W := by
  unfold World.var? at h
  rw [hg] at h
  simp only [Option.bind_some] at h
  split at h <;> try (cases h; done)
  rename_i cells e fr hh
  simp only [Option.some.injEq] at h
  subst h
  refine ⟨fun k o v hv _ => ?_, fun k hle => ?_⟩
  · dsimp only at hv
    split at hv
    · rename_i e0
      subst e0
      obtain ⟨x, hx, hr⟩ := concs_get hc o v hv
      refine ⟨x, hx, ?_⟩
      unfold World.cell?
      simp only [hh]
      simpa using hr
    · simp at hv
  · dsimp only
    rw [if_neg]
    rintro rfl
    have : W.heap[k]? = none := Array.getElem?_eq_none hle
    rw [this] at hh
    cases hh
variable {P : Program} {H : Type} {enc : TypeId × Value → H} {W : World} {base : Nat}
theorem elem_of {e w : TypeId} (he : P.underlying e = some (.array 4 w)) (hw : P.underlying w = some (.int .u64)) (s1 : P.cellsOf w = 1) (s4 : P.cellsOf e = 4) {n : Nat} {cs : List Value} {x : DataW H × List MemPlace} (h : DataW.trod enc P W 0 (fun _ => true) true n e cs = some x) :
    ∃ z : Nat → Nat, (∀ k, z k < 18446744073709551616) ∧ cs.length = 4 ∧ ∀ k, k < 4 → cs[k]? = some (.int .u64 (z k : Int)) := by
  obtain ⟨xs, m, _, _, hl, hxl, hel⟩ := DataW.trod_array he h
  rw [s4] at hl
  have key : ∀ k, k < 4 → ∃ z : Nat, z < 18446744073709551616 ∧ cs[k]? = some (.int .u64 (z : Int)) := by
    intro k hk
    have hk' := hel k hk
    rw [s1, Nat.mul_one] at hk'
    obtain ⟨y, hy⟩ : ∃ y, xs[k]? = some y := ⟨xs[k], List.getElem?_eq_getElem (by omega)⟩
    rw [hy] at hk'
    obtain ⟨z, e1, _, hwf⟩ := DataW.trod_int hw hk'
    have hb := bounds_u64 hwf
    refine ⟨z.toNat, by omega, ?_⟩
    have e2 : ((cs.drop k).take 1)[0]? = some (.int .u64 z) := by rw [e1]; rfl
    rw [List.getElem?_take_of_lt (by decide), List.getElem?_drop, Nat.add_zero] at e2
    rw [e2, show ((z.toNat : Nat) : Int) = z by omega]
  obtain ⟨z0, a0, b0⟩ := key 0 (by omega)
  obtain ⟨z1, a1, b1⟩ := key 1 (by omega)
  obtain ⟨z2, a2, b2⟩ := key 2 (by omega)
  obtain ⟨z3, a3, b3⟩ := key 3 (by omega)
  refine ⟨fun k => if k = 0 then z0 else if k = 1 then z1 else if k = 2 then z2 else if k = 3 then z3 else 0, fun k => ?_, hl, fun k hk => ?_⟩
  · show (if k = 0 then z0 else if k = 1 then z1 else if k = 2 then z2 else if k = 3 then z3 else 0) < _
    (repeat' split) <;> omega
  · have : k = 0 ∨ k = 1 ∨ k = 2 ∨ k = 3 := by omega
    rcases this with rfl | rfl | rfl | rfl
    · exact b0
    · exact b1
    · exact b2
    · exact b3
theorem word_of {e w : TypeId} (he : P.underlying e = some (.array 4 w)) (hw : P.underlying w = some (.int .u64)) (s1 : P.cellsOf w = 1) (s4 : P.cellsOf e = 4) {n : Nat} {cs : List Value} {x : DataW H × List MemPlace} (h : DataW.trod enc P W 0 (fun _ => true) true n e cs = some x) :
    ∃ k, k < 115792089237316195423570985008687907853269984665640564039457584007913129639936 ∧ ∀ ρ, concs ρ (lc k) = some cs := by
  obtain ⟨z, hz, hl, hc⟩ := elem_of he hw s1 s4 h
  refine ⟨num z, num_lt hz, fun ρ => ?_⟩
  rw [lc_num hz]
  match cs, hl with
  | [a, b, c, d], _ =>
    have e0 := hc 0 (by omega); have e1 := hc 1 (by omega); have e2 := hc 2 (by omega); have e3 := hc 3 (by omega)
    simp at e0 e1 e2 e3
    subst e0 e1 e2 e3
    rfl
theorem slice_of {t e w : TypeId} (ht : P.underlying t = some (.slice e)) (he : P.underlying e = some (.array 4 w)) (hw : P.underlying w = some (.int .u64)) (s1 : P.cellsOf w = 1) (s4 : P.cellsOf e = 4) {n : Nat} {v : Value} {x : DataW H × List MemPlace}
    (hok : Cell.okWide P W .any base t v) (h : DataW.trod enc P W 0 (fun _ => true) true n t [v] = some x) :
    ∃ (f : Nat → Nat) (n m : Nat) (z : Bool) (p : Option Pl), Ok n m z ∧ (∀ j, f j < 115792089237316195423570985008687907853269984665640564039457584007913129639936) ∧ RoB W (ivb f n z) p ∧ ∀ ρ i, place ρ i = p → conc ρ (ivl i n m z) = some v := by
  unfold Cell.okWide at hok
  rw [ht] at hok
  have hok : Cell.ok P W .any base t v := by
    cases v <;> exact hok
  unfold Cell.ok at hok
  rw [ht] at hok
  split at hok <;> try (exact hok.elim) <;> try (rename_i e _; cases e; done)
  all_goals try (rename_i e; cases e; done)
  all_goals try (rename_i e _ ; cases e; done)
  · exact ⟨fun _ => 0, 0, 0, true, none, ⟨Nat.le_refl _, fun _ => rfl⟩, fun _ => (by decide : (0 : Nat) < 115792089237316195423570985008687907853269984665640564039457584007913129639936), .inl rfl, fun _ _ _ => rfl⟩
  · rename_i e' a len cap heq _
    obtain rfl : e = e' := by simpa using heq
    obtain ⟨hlc, hcap, _, hspot, row, cells, hshape, _⟩ := hok
    have hblk : a.block < W.heap.size := by
      unfold World.shape? at hshape
      split at hshape
      · rename_i e
        exact (Array.getElem?_eq_some_iff.1 e).1
      · cases hshape
    rcases Go.Deep.open_slice ht h with ⟨e, _⟩ | ⟨a', len', cap', m, n, D, Pl, e, _, _, _, hm, _, hel⟩
    · simp at e
    · have e' : a = a' ∧ len = len' ∧ cap = cap' := by simpa using e
      obtain ⟨rfl, rfl, rfl⟩ := e'
      have hm' : m = cap := by rw [hm]; rfl
      have hex : ∀ i, i < len → ∃ z : Nat → Nat, (∀ k, z k < 18446744073709551616) ∧ ∀ k, k < 4 → W.cell? (a.add (i * 4 + k)) = some (.int .u64 (z k : Int)) := by
        intro i hi
        obtain ⟨cs', h1, h2⟩ := hel i (by omega)
        obtain ⟨z, hz, _, hc⟩ := elem_of he hw s1 s4 h2
        refine ⟨z, hz, fun k hk => ?_⟩
        rw [s4] at h1
        unfold World.cells? at h1
        rw [if_pos (Nat.zero_le _)] at h1
        have h3 := mapM_some_get h1 k k (by rw [List.getElem?_range hk])
        rw [hc k hk, Go.Deep.add_add] at h3
        exact h3
      obtain ⟨Z, hZ⟩ := Go.Deep.choose_lt hex
      let z' : Nat → Nat → Nat := fun i => if i < len then Z i else fun _ => 0
      have hz' : ∀ i k, z' i k < 18446744073709551616 := by
        intro i k
        show (if i < len then Z i else fun _ => 0) k < _
        split
        · rename_i hi; exact (hZ i hi).1 k
        · exact (by decide : (0 : Nat) < 18446744073709551616)
      have hc' : ∀ i, i < len → ∀ k, k < 4 → W.cell? (a.add (i * 4 + k)) = some (.int .u64 (z' i k : Int)) := by
        intro i hi k hk
        show _ = some (Value.int .u64 (((if i < len then Z i else fun _ => 0) k : Nat) : Int))
        rw [if_pos hi]
        exact (hZ i hi).2 k hk
      refine ⟨fun i => num (z' i), len, cap, false, some ⟨a.block, a.off, len * 4⟩, ⟨hlc, fun h => (by cases h)⟩, fun j => num_lt (hz' j), .inr ⟨_, _, rfl, rfl, hblk, by rw [scs_len]; exact Nat.le_refl _, fun j v hj _ => ?_⟩, fun ρ i hp => ?_⟩
      · obtain ⟨x, rfl, hx⟩ := sim_cells hspot z' hz' len hc' j v hj
        exact ⟨_, rfl, hx⟩
      · obtain ⟨b, o, sp⟩ := a
        simp only at hspot
        subst hspot
        show (place ρ i).map _ = _
        rw [hp]
        rfl
theorem calls_of {G : Nat → List V} {f : FuncId} {args : List V} {h : Heap} {u : V} (hcf : ∀ (xs : Array Value) w, (callFunc f xs).run P w = .ok (.enter f xs) w) (hro : ∀ b ∈ h, wrB b = false) (hv : VCall P G f args h fun v k => v = u ∧ k = h) {ρ : Rho} {W : World} {vs : List Value} {r : Value}
    (hs : Sim G ρ h W) (hc : concs ρ args = some vs) (hr : ∀ ρ, conc ρ u = some r) : Calls P f vs.toArray W fun e w' => e = .returned r ∧ Below W.heap.size W w' := by
  have hno : ∀ b, ¬ WR ρ h b := by
    rintro b ⟨i, bk, q, h1, h2, h3, h4⟩
    exact h3 (by
      have := hro _ (List.mem_of_getElem? h1)
      obtain ⟨k, c⟩ := bk
      cases k <;> simp [wrB] at this ⊢)
  rcases hv ρ W vs hs hc with ⟨_, h⟩ | ⟨v', w', h, _⟩
  · refine h.mono fun e w' hr' => ?_
    obtain ⟨ρ', x, h', y, rfl, h2, h3, h4, rfl, _⟩ := hr'
    rw [hr] at h2
    cases h2
    exact ⟨rfl, h4.os, h4.tape, h4.output, h4.size, fun b hb => h4.same b hb (hno b)⟩
  · rw [hcf] at h
    cases h
end Go.Vs.Tryd
namespace Go.Proofs.YtgppccahbcbanaaDoor
open Go.ChangeShapes Go.WideShapes Go.ChangeAt Go.RowKit Go.Vs
set_option maxRecDepth 100000
theorem u22 : Tryd.prog.underlying 22 = some (.int .u64) := by kernel_rfl
theorem u23 : Tryd.prog.underlying 23 = some (.array 4 22) := by kernel_rfl
theorem u24 : Tryd.prog.underlying 24 = some (.slice 23) := by kernel_rfl
theorem c22 : Tryd.prog.cellsOf 22 = 1 := by kernel_rfl
theorem c23 : Tryd.prog.cellsOf 23 = 4 := by kernel_rfl
theorem u32 : Tryd.prog.underlying 32 = some (.array 4 22) := by kernel_rfl
theorem c32 : Tryd.prog.cellsOf 32 = 4 := by kernel_rfl
theorem u68 : Tryd.prog.underlying 68 = some (.array 4 32) := by kernel_rfl
theorem c68 : Tryd.prog.cellsOf 68 = 16 := by kernel_rfl
theorem four {n : Nat} {W : World} {base : Nat} {sp : Nat → Bool} {held : Bool} {enc : TypeId × Value → Unit} {cs : List Value} {a b c d : Int} {p : List MemPlace} (h : DataW.trod enc Tryd.prog W base sp held n 32 cs = some (.agg [.lit (.int .u64 a), .lit (.int .u64 b), .lit (.int .u64 c), .lit (.int .u64 d)], p)) :
    cs = [.int .u64 a, .int .u64 b, .int .u64 c, .int .u64 d] := by
  obtain ⟨xs, m, _, ex, hlen, hl, hel⟩ := DataW.trod_array u32 h
  rw [c32] at hlen
  match cs, hlen with
  | [v0, v1, v2, v3], _ =>
    match xs, hl with
    | [x0, x1, x2, x3], _ =>
      have e3 := (DataW.agg.inj (Prod.mk.inj ex).1)
      simp only [List.map_cons, List.map_nil, List.cons.injEq, and_true] at e3
      have k0 := hel 0 (by omega); have k1 := hel 1 (by omega); have k2 := hel 2 (by omega); have k3 := hel 3 (by omega)
      rw [c22] at k0 k1 k2 k3
      obtain ⟨z0, a0, b0, _⟩ := DataW.trod_int u22 k0
      obtain ⟨z1, a1, b1, _⟩ := DataW.trod_int u22 k1
      obtain ⟨z2, a2, b2, _⟩ := DataW.trod_int u22 k2
      obtain ⟨z3, a3, b3, _⟩ := DataW.trod_int u22 k3
      simp_all
def tblV : Array Value := #[.int .u64 6346243789798364141, .int .u64 1503914060200516822, .int .u64 0, .int .u64 1152921504606846976, .int .u64 15486807595281847581, .int .u64 14334777244411350896, .int .u64 18446744073709551614, .int .u64 1152921504606846975, .int .u64 11819153939886771969, .int .u64 14991950615390032711, .int .u64 14910419812499177061, .int .u64 259310039853996605, .int .u64 6346243789798364139, .int .u64 1503914060200516822, .int .u64 0, .int .u64 1152921504606846976]
theorem tableCells {W : World} {rest : List (String × DataW Unit)} (hp : laidMet Tryd.prog (("veil/scalar.table", Rows.laid_veil_scalar_table) :: rest) W) : W.var? Tryd.prog "veil/scalar.table" = some tblV := by
  obtain ⟨ps, ⟨g, t, cs, fuel, p, q, hg, ht, hv, hd, _, _⟩, _, _⟩ := hp
  obtain rfl := Option.some.inj ((show Tryd.prog.globalNamed "veil/scalar.table" = some 0 by kernel_rfl).symm.trans hg)
  obtain rfl := Option.some.inj ((show (Tryd.prog.globals[0]?).map (·.type) = some 68 by kernel_rfl).symm.trans ht)
  obtain ⟨xs, m, _, ex, hlen, hl, hel⟩ := DataW.trod_array u68 hd
  rw [c68] at hlen
  match xs, hl with
  | [x0, x1, x2, x3], _ =>
    have e3 := (DataW.agg.inj (Prod.mk.inj ex).1)
    simp only [List.map_cons, List.map_nil, List.cons.injEq, and_true] at e3
    obtain ⟨e0, e1, e2, e3⟩ := e3
    have k0 := hel 0 (by omega); have k1 := hel 1 (by omega); have k2 := hel 2 (by omega); have k3 := hel 3 (by omega)
    rw [c32] at k0 k1 k2 k3
    obtain ⟨d0, p0⟩ := x0
    obtain ⟨d1, p1⟩ := x1
    obtain ⟨d2, p2⟩ := x2
    obtain ⟨d3, p3⟩ := x3
    simp only at e0 e1 e2 e3
    subst e0 e1 e2 e3
    have f0 := four k0
    have f1 := four k1
    have f2 := four k2
    have f3 := four k3
    rw [hv]
    obtain ⟨l⟩ := cs
    simp only at f0 f1 f2 f3 hlen
    have hsplit : l = (l.drop (0 * 4)).take 4 ++ (l.drop (1 * 4)).take 4 ++ (l.drop (2 * 4)).take 4 ++ (l.drop (3 * 4)).take 4 := by
      match l, hlen with
      | [_, _, _, _, _, _, _, _, _, _, _, _, _, _, _, _], _ => rfl
    rw [hsplit, f0, f1, f2, f3]
    rfl
def GT : Nat → List V := fun g => if g = 0 then Go.Vs.Tryd.tbl else []
theorem globs_of {W : World} (h : W.var? Tryd.prog "veil/scalar.table" = some tblV) : Go.Vs.Tryd.GlobsOk GT W :=
  Go.Vs.Tryd.globs_one (show Tryd.prog.globalNamed "veil/scalar.table" = some 0 by kernel_rfl) h (by rfl)
def flds (P : Program) (t : TypeId) : Option (List (Nat × Nat)) := match P.underlying t with
  | some (.struct fs) => some (fs.toList.map fun f => (f.offset, f.type))
  | _ => none
theorem flds_some {P : Program} {t : TypeId} {l : List (Nat × Nat)} (h : flds P t = some l) : ∃ fs, P.underlying t = some (.struct fs) ∧ fs.toList.map (fun f => (f.offset, f.type)) = l := by
  unfold flds at h
  split at h
  · rename_i fs e
    exact ⟨fs, e, Option.some.inj h⟩
  · cases h
theorem u26 : ∃ fs, Tryd.prog.underlying 26 = some (.struct fs) ∧ fs.toList.map (fun f => (f.offset, f.type)) = [(0, 23), (4, 23), (8, 24), (9, 24), (10, 24), (11, 24), (12, 24), (13, 24), (14, 23), (18, 23), (22, 4), (23, 24), (24, 9), (25, 3)] := flds_some (by kernel_rfl)
theorem c24 : Tryd.prog.cellsOf 24 = 1 := by kernel_rfl
theorem c4 : Tryd.prog.cellsOf 4 = 1 := by kernel_rfl
theorem c9 : Tryd.prog.cellsOf 9 = 1 := by kernel_rfl
theorem c3 : Tryd.prog.cellsOf 3 = 1 := by kernel_rfl
theorem c26 : Tryd.prog.cellsOf 26 = 26 := by kernel_rfl
theorem u4 : Tryd.prog.underlying 4 = some .bool := by kernel_rfl
theorem u9 : Tryd.prog.underlying 9 = some .string := by kernel_rfl
theorem u3 : Tryd.prog.underlying 3 = some (.int .i64) := by kernel_rfl
theorem t26 : Tryd.prog.cellTypes Tryd.prog.depth 26 = some [22, 22, 22, 22, 22, 22, 22, 22, 24, 24, 24, 24, 24, 24, 22, 22, 22, 22, 22, 22, 22, 22, 4, 24, 9, 3] := by kernel_rfl
theorem len_of {W : World} {base i n m : Nat} {z : Bool} {v : Value} {ρ : Rho} (hok : Cell.okWide Tryd.prog W .any base 24 v) (ho : Go.Vs.Tryd.Ok n m z) (hc : conc ρ (Go.Vs.Tryd.ivl i n m z) = some v) : n < 9223372036854775808 := by
  cases z with
  | true => have := ho.2 rfl; omega
  | false =>
    simp only [Go.Vs.Tryd.ivl, Bool.false_eq_true, if_false, conc, Option.map_eq_some_iff] at hc
    obtain ⟨p, _, rfl⟩ := hc
    unfold Cell.okWide at hok
    rw [u24] at hok
    unfold Cell.ok at hok
    rw [u24] at hok
    have h2 : (m : Int) ≤ IntKind.i64.max := hok.2.1
    have h3 : IntKind.i64.max = 9223372036854775807 := by decide
    have := ho.1
    omega
theorem bytes23 : Tryd.prog.bytesOf 23 = 32 := by kernel_rfl
theorem reach_is : reachBytes = 140737488351232 := by decide
theorem wlen_of {H : Type} {enc : TypeId × Value → H} {W : World} {k i n m : Nat} {z : Bool} {v : Value} {ρ : Rho} {x : DataW H × List MemPlace} (h : DataW.trod enc Tryd.prog W 0 (fun _ => true) true k 24 [v] = some x) (ho : Go.Vs.Tryd.Ok n m z) (hc : conc ρ (Go.Vs.Tryd.ivl i n m z) = some v) (hw : (x.1.weights Tryd.prog 24).all (· ≤ reachBytes) = true) : n * 32 ≤ 140737488351232 := by
  cases z with
  | true => have := ho.2 rfl; omega
  | false =>
    simp only [Go.Vs.Tryd.ivl, Bool.false_eq_true, if_false, conc, Option.map_eq_some_iff] at hc
    obtain ⟨p, _, rfl⟩ := hc
    rcases Go.Deep.open_slice u24 h with ⟨e, _⟩ | ⟨a', len', cap', m', n', D, Pl, e, _, _, _, hm, hx, _⟩
    · simp at e
    · have e' : n = len' := by
        have := (List.cons.inj e).1
        simp only [Value.slice.injEq] at this
        exact this.2.1
      subst e'
      subst hx
      unfold DataW.weights at hw
      rw [u24] at hw
      simp only [List.all_cons, Bool.and_eq_true, decide_eq_true_eq, List.length_map, List.length_range] at hw
      have := hw.1
      rw [bytes23, reach_is] at this
      have h4 : n * 32 ≤ (n + (m' - n)) * 32 := Nat.mul_le_mul_right _ (Nat.le_add_right _ _)
      omega
theorem weights_get {H : Type} {P : Program} {p : Nat → Bool} : ∀ {ts : List TypeId} {ds : List (DataW H)} {i : Nat} {t : TypeId} {d : DataW H}, ts[i]? = some t → ds[i]? = some d → (DataW.weightsEach P ts ds).all p = true → (d.weights P t).all p = true
  | [], _, _, _, _, h, _, _ => by simp at h
  | _ :: _, [], _, _, _, _, h, _ => by simp at h
  | u :: ts, e :: ds, 0, t, d, h1, h2, h => by
    simp only [List.getElem?_cons_zero, Option.some.injEq] at h1 h2
    subst h1 h2
    simp only [DataW.weightsEach, List.all_append, Bool.and_eq_true] at h
    exact h.1
  | u :: ts, e :: ds, i + 1, t, d, h1, h2, h => by
    simp only [List.getElem?_cons_succ] at h1 h2
    simp only [DataW.weightsEach, List.all_append, Bool.and_eq_true] at h
    exact weights_get h1 h2 h.2
theorem case_of {H : Type} {enc : TypeId × Value → H} {W : World} {base : Nat} {v : Value} {d : DataW H} {ps : List MemPlace} (hval : Value.okWide Tryd.prog W .any base 26 v) (h : DataW.Trod enc Tryd.prog W 0 (fun _ => true) true 26 v d ps) (hwt : (d.weights Tryd.prog 26).all (· ≤ reachBytes) = true) :
    ∃ (g hh a b l r u : Nat → Nat) (Q P ea eb nG mG nH mH nA mA nB mB nL mL nR mR nU mU : Nat) (zG zH zA zB zL zR zU : Bool) (sc : Bool) (lab : ByteArray) (N : Int) (ρ : Rho),
      ((∀ j, g j < 2^256) ∧ (∀ j, hh j < 2^256) ∧ (∀ j, a j < 2^256) ∧ (∀ j, b j < 2^256) ∧ (∀ j, l j < 2^256) ∧ (∀ j, r j < 2^256) ∧ (∀ j, u j < 2^256)) ∧
      (Q < 2^256 ∧ P < 2^256 ∧ ea < 2^256 ∧ eb < 2^256) ∧
      (Go.Vs.Tryd.Ok nG mG zG ∧ Go.Vs.Tryd.Ok nH mH zH ∧ Go.Vs.Tryd.Ok nA mA zA ∧ Go.Vs.Tryd.Ok nB mB zB ∧ Go.Vs.Tryd.Ok nL mL zL ∧ Go.Vs.Tryd.Ok nR mR zR ∧ Go.Vs.Tryd.Ok nU mU zU) ∧
      (N < 2^63 ∧ -2^63 ≤ N) ∧ (nG < 2^63 ∧ nH < 2^63 ∧ nA < 2^63 ∧ nB < 2^63 ∧ nL < 2^63 ∧ nR < 2^63 ∧ nU * 32 ≤ 140737488351232) ∧
      (∀ {G}, Go.Vs.Tryd.GlobsOk G W → Sim G ρ [Go.Vs.Tryd.ivb g nG zG, Go.Vs.Tryd.ivb hh nH zH, Go.Vs.Tryd.ivb a nA zA, Go.Vs.Tryd.ivb b nB zB, Go.Vs.Tryd.ivb l nL zL, Go.Vs.Tryd.ivb r nR zR, Go.Vs.Tryd.ivb u nU zU] W) ∧
      conc ρ (.agg (Go.Vs.Tryd.cas Q P (Go.Vs.Tryd.ivl 0 nG mG zG) (Go.Vs.Tryd.ivl 1 nH mH zH) (Go.Vs.Tryd.ivl 2 nA mA zA) (Go.Vs.Tryd.ivl 3 nB mB zB) (Go.Vs.Tryd.ivl 4 nL mL zL) (Go.Vs.Tryd.ivl 5 nR mR zR) ea eb (.bool sc) (Go.Vs.Tryd.ivl 6 nU mU zU) (.str lab) (.int .i64 N))) = some v := by
  obtain ⟨fuel, h⟩ := h
  obtain ⟨fs, hfs, hof⟩ := u26
  have hv : ∃ cs, v = .agg cs ∧ cs.size = 26 ∧ Row.okWide Tryd.prog W .any base 26 cs := by
    unfold Value.okWide at hval
    rw [hfs] at hval
    simpa [c26] using hval
  obtain ⟨cs, rfl, hsz, ts, hts, _, hcell⟩ := hv
  rw [t26] at hts
  obtain rfl := Option.some.inj hts
  obtain ⟨xs, n, _, hxd, hlen, hxl, hel⟩ := DataW.trod_struct hfs h
  have hdx : d = .agg (xs.map (·.1)) := (Prod.mk.inj hxd).1
  have hfl : fs.size = 14 := by have := congrArg List.length hof; simpa using this
  have fld : ∀ (i o t : Nat), (fs.toList.map (fun f => (f.offset, f.type)))[i]? = some (o, t) → ∃ x, DataW.trod enc Tryd.prog W 0 (fun _ => true) true n t ((cs.toList.drop o).take (Tryd.prog.cellsOf t)) = some x := by
    intro i o t hi
    rw [List.getElem?_map] at hi
    simp only [Option.map_eq_some_iff, Prod.mk.injEq] at hi
    obtain ⟨f, hf, rfl, rfl⟩ := hi
    have hlt : i < fs.size := by
      have := (List.getElem?_eq_some_iff.1 hf).1
      simpa using this
    have := hel i f (by simpa using hf)
    obtain ⟨y, hy⟩ : ∃ y, xs[i]? = some y := ⟨xs[i], List.getElem?_eq_getElem (by omega)⟩
    exact ⟨y, this.trans hy⟩
  have fldx : ∀ (i o t : Nat), (fs.toList.map (fun f => (f.offset, f.type)))[i]? = some (o, t) → DataW.trod enc Tryd.prog W 0 (fun _ => true) true n t ((cs.toList.drop o).take (Tryd.prog.cellsOf t)) = xs[i]? := by
    intro i o t hi
    rw [List.getElem?_map] at hi
    simp only [Option.map_eq_some_iff, Prod.mk.injEq] at hi
    obtain ⟨f, hf, rfl, rfl⟩ := hi
    exact hel i f (by simpa using hf)
  rw [hof] at fld fldx
  have wd : ∀ (i o : Nat), ([(0, 23), (4, 23), (8, 24), (9, 24), (10, 24), (11, 24), (12, 24), (13, 24), (14, 23), (18, 23), (22, 4), (23, 24), (24, 9), (25, 3)] : List (Nat × Nat))[i]? = some (o, 23) → ∃ k, k < 2^256 ∧ ∀ ρ, concs ρ (Go.Vs.Tryd.lc k) = some ((cs.toList.drop o).take 4) := by
    intro i o hi
    obtain ⟨x, hx⟩ := fld i o 23 hi
    rw [c23] at hx
    exact Go.Vs.Tryd.word_of u23 u22 c22 c23 hx
  have sl : ∀ (i o : Nat), ([(0, 23), (4, 23), (8, 24), (9, 24), (10, 24), (11, 24), (12, 24), (13, 24), (14, 23), (18, 23), (22, 4), (23, 24), (24, 9), (25, 3)] : List (Nat × Nat))[i]? = some (o, 24) → o < 26 → ([22, 22, 22, 22, 22, 22, 22, 22, 24, 24, 24, 24, 24, 24, 22, 22, 22, 22, 22, 22, 22, 22, 4, 24, 9, 3] : List Nat)[o]? = some 24 →
      ∃ (f : Nat → Nat) (n m : Nat) (z : Bool) (p : Option Pl) (w : Value), Go.Vs.Tryd.Ok n m z ∧ (∀ j, f j < 2^256) ∧ Go.Vs.Tryd.RoB W (Go.Vs.Tryd.ivb f n z) p ∧ (∀ ρ i, place ρ i = p → conc ρ (Go.Vs.Tryd.ivl i n m z) = some w) ∧ cs.toList[o]? = some w ∧ n < 2^63 ∧ n * 32 ≤ 140737488351232 := by
    intro i o hi ho ht
    obtain ⟨x, hx⟩ := fld i o 24 hi
    have hlt : o < cs.toList.length := by simpa [hsz] using ho
    obtain ⟨w, hw⟩ : ∃ w, cs.toList[o]? = some w := ⟨cs.toList[o], List.getElem?_eq_getElem hlt⟩
    have e1 : (cs.toList.drop o).take 1 = [w] := by
      rw [List.drop_eq_getElem_cons hlt]
      have := (List.getElem?_eq_some_iff.1 hw).2
      simp [this]
    rw [c24, e1] at hx
    obtain ⟨u, hu, hok⟩ := hcell o w (by simpa using hw)
    have hu' : u = 24 := by
      have : o % 26 = o := Nat.mod_eq_of_lt ho
      simp only [List.length_cons, List.length_nil, Nat.reduceAdd, this] at hu
      rw [ht] at hu
      exact (Option.some.inj hu).symm
    subst hu'
    obtain ⟨f, n, m, z, p, k1, k2, k3, k4⟩ := Go.Vs.Tryd.slice_of u24 u23 u22 c22 c23 hok hx
    have hcc : conc [p] (Go.Vs.Tryd.ivl 0 n m z) = some w := k4 [p] 0 rfl
    refine ⟨f, n, m, z, p, w, k1, k2, k3, k4, hw, len_of hok k1 hcc, wlen_of hx k1 hcc ?_⟩
    subst hdx
    unfold DataW.weights at hwt
    rw [hfs] at hwt
    have hty : (fs.toList.map (·.type))[i]? = some 24 := by
      have := congrArg (Option.map Prod.snd) ((congrArg (fun l => l[i]?) hof).trans hi)
      simpa [List.getElem?_map, Option.map_map, Function.comp_def] using this
    have hx2 : (xs.map (·.1))[i]? = some x.1 := by
      have hxi := fldx i o 24 hi
      rw [c24, e1] at hxi
      rw [List.getElem?_map, ← hxi]
      exact congrArg (Option.map Prod.fst) hx
    exact weights_get hty hx2 hwt
  obtain ⟨Q, hQ, eQ⟩ := wd 0 0 rfl
  obtain ⟨P, hP, eP⟩ := wd 1 4 rfl
  obtain ⟨ea, hea, eea⟩ := wd 8 14 rfl
  obtain ⟨eb, heb, eeb⟩ := wd 9 18 rfl
  obtain ⟨g, nG, mG, zG, pG, wG, g1, g2, g3, g4, g5, g6, g7⟩ := sl 2 8 rfl (by omega) rfl
  obtain ⟨hh, nH, mH, zH, pH, wH, h1, h2, h3, h4, h5, h6, h7⟩ := sl 3 9 rfl (by omega) rfl
  obtain ⟨a, nA, mA, zA, pA, wA, a1, a2, a3, a4, a5, a6, a7⟩ := sl 4 10 rfl (by omega) rfl
  obtain ⟨b, nB, mB, zB, pB, wB, b1, b2, b3, b4, b5, b6, b7⟩ := sl 5 11 rfl (by omega) rfl
  obtain ⟨l, nL, mL, zL, pL, wL, l1, l2, l3, l4, l5, l6, l7⟩ := sl 6 12 rfl (by omega) rfl
  obtain ⟨r, nR, mR, zR, pR, wR, r1, r2, r3, r4, r5, r6, r7⟩ := sl 7 13 rfl (by omega) rfl
  obtain ⟨u, nU, mU, zU, pU, wU, u1, u2, u3', u4', u5, u6, u7⟩ := sl 11 23 rfl (by omega) rfl
  obtain ⟨xb, hxb⟩ := fld 10 22 4 rfl
  obtain ⟨xs', hxs⟩ := fld 12 24 9 rfl
  obtain ⟨xn, hxn⟩ := fld 13 25 3 rfl
  rw [c4] at hxb
  rw [c9] at hxs
  rw [c3] at hxn
  obtain ⟨sc, eb1, _⟩ := DataW.trod_bool u4 hxb
  obtain ⟨lab, es1, _⟩ := DataW.trod_string u9 hxs
  obtain ⟨N, en1, _, hN⟩ := DataW.trod_int u3 hxn
  have hN' := bounds_i64 hN
  refine ⟨g, hh, a, b, l, r, u, Q, P, ea, eb, nG, mG, nH, mH, nA, mA, nB, mB, nL, mL, nR, mR, nU, mU, zG, zH, zA, zB, zL, zR, zU, sc, lab, N, [pG, pH, pA, pB, pL, pR, pU], ⟨g2, h2, a2, b2, l2, r2, u2⟩, ⟨hQ, hP, hea, heb⟩, ⟨g1, h1, a1, b1, l1, r1, u1⟩, ⟨by omega, by omega⟩, ⟨g6, h6, a6, b6, l6, r6, u7⟩, fun hG => Go.Vs.Tryd.sim_ro hG rfl fun i b hi => ?_, ?_⟩
  · match i, hi with
    | 0, hi => cases hi; exact g3
    | 1, hi => cases hi; exact h3
    | 2, hi => cases hi; exact a3
    | 3, hi => cases hi; exact b3
    | 4, hi => cases hi; exact l3
    | 5, hi => cases hi; exact r3
    | 6, hi => cases hi; exact u3'
    | n + 7, hi => simp at hi
  · have hl26 : cs.toList.length = 26 := by simpa using hsz
    obtain ⟨L⟩ := cs
    simp only at *
    match L, hl26 with
    | [v0, v1, v2, v3, v4, v5, v6, v7, v8, v9, v10, v11, v12, v13, v14, v15, v16, v17, v18, v19, v20, v21, v22, v23, v24, v25], _ =>
      simp only [List.drop_zero, List.drop_succ_cons, List.take_succ_cons, List.take_zero, List.take_nil, List.getElem?_cons_zero, List.getElem?_cons_succ, Option.some.injEq, List.cons.injEq, and_true] at *
      subst g5 h5 a5 b5 l5 r5 u5 eb1 es1 en1
      simp only [Go.Vs.Tryd.cas, conc]
      rw [Option.map_eq_some_iff]
      refine ⟨_, ?_, rfl⟩
      refine concs_append (r := [v0, v1, v2, v3]) (eQ _) (concs_append (r := [v4, v5, v6, v7]) (eP _) ?_)
      refine concs_cons.2 ⟨_, _, g4 _ 0 rfl, concs_cons.2 ⟨_, _, h4 _ 1 rfl, concs_cons.2 ⟨_, _, a4 _ 2 rfl, concs_cons.2 ⟨_, _, b4 _ 3 rfl, concs_cons.2 ⟨_, _, l4 _ 4 rfl, concs_cons.2 ⟨_, _, r4 _ 5 rfl, ?_, rfl⟩, rfl⟩, rfl⟩, rfl⟩, rfl⟩, rfl⟩
      refine concs_append (r := [v14, v15, v16, v17]) (eea _) (concs_append (r := [v18, v19, v20, v21]) (eeb _) ?_)
      refine concs_cons.2 ⟨_, _, rfl, concs_cons.2 ⟨_, _, u4' _ 6 rfl, rfl, rfl⟩, rfl⟩
end Go.Proofs.YtgppccahbcbanaaDoor
namespace Go.Vs
open Go
theorem onlyLeaving_of_quiet {P : Program} {m : Machine} (h : m.quiet) : m.OnlyLeaving P :=
  ⟨fun g hg => ⟨0, show g.status = .finished by have := List.all_eq_true.1 h.1 g hg; simpa using this⟩, h.2⟩
theorem leavingWide_of_handed {a : Assume} {C : Checked} {os : Os} {f : FuncId} {r : Reach} {Pre : World → Array Value → Prop} {Post : World → Array Value → Value → World → Prop}
    (h : ReturnsInHanded a C os f r Pre Post) : ReturnsInLeavingWide a C os f r Pre Post := fun enter =>
  ReturnsInOpen.mono (fun _ _ _ x => ⟨x.2.1, onlyLeaving_of_quiet x.1, x.2.2⟩) (fun _ x => x) (h enter)
theorem holds_tied_goes (Lk : Looks) {p : Pinned} {s : OpenSpec} {c : OpenClaim} (kinds : List LaidKind) (tests : Bool) (har : Bool × String) (lk g : Bool)
    (hc : c.holds p s) (hw : c.wfByText s = true) (htie : c.laidByTextAt Lk p kinds tests)
    (hst : c.start = .entering) (hnb : c.noBlocks = false ∧ c.again = false) (hm : p.checked.prog.mainIs = some (har.1, har.2.toList)) (hn : (!har.1 && har.2.isEmpty && !lk) = false)
    (hl : ∀ f fn, p.checked.prog.funcNamed c.func = some f → p.checked.prog.funcs[f]? = some fn → lk = p.checked.prog.looks [] ∧ ∀ (j : Nat) t, fn.params[j]? = some t → p.checked.prog.wantsStandIn t = false)
    (hg : g = c.goesBy p.checked.prog) :
    Claim7.holds p (.plain s) { stood := { row := c, standIns := [], harness := har, looks := lk }, kinds := [], alts := [], goes := g, laidByText := true, laidKinds := kinds, laidTests := tests, laidLooks := Lk } := by
  have h6 : ∀ r : OpenClaim, Claim7.isSixth { stood := { row := r, standIns := [], harness := har, looks := lk }, kinds := [] } = false := fun r => by simpa [Claim7.isSixth] using hn
  refine ⟨?_, fun D hD => (by cases hD), htie, (fun h => by cases h), hg⟩
  exact Claim7.tied_new_at Lk kinds tests (Claim7.new_of_sixth hc har lk hst hnb hm (h6 c) hl) hw
end Go.Vs
namespace Go.Proofs.YtgppccahbcbanaaDoor
open Go.ChangeShapes Go.WideShapes Go.ChangeAt Go.RowKit Go.Vs
set_option maxRecDepth 100000
def laidT : List (String × DataW Unit) := [("veil/scalar.table", Rows.laid_veil_scalar_table)]
theorem tableOf {W : World} (h : laidMetH Tryd.prog laidT W) : W.var? Tryd.prog "veil/scalar.table" = some tblV := by
  rw [MakeChecks.laidMetH_plain _ _ _ (by kernel_rfl)] at h
  exact tableCells h
theorem enters3 (xs : Array Value) (w : World) : (callFunc 3 xs).run Tryd.prog w = .ok (.enter 3 xs) w := by
  have h1 : Tryd.f3.name ≠ "runtime.NumGoroutine" := by have := Go.Vs.Tryd.nm3; simpa using this
  obtain ⟨c, hb, _⟩ := Option.bind_eq_some_iff.1 Go.Vs.Tryd.code3
  simp [callFunc, Tryd.func3, h1, hb]
theorem own : ownKnob Tryd.prog.godebug = none := by kernel_rfl
theorem lifted3 (os : Os) (started : os.Started) (H : Type) (enc : TypeId × Value → H) :
    ReturnsInHanded {} Tryd.checked os 3 .any (fun w args => (Rows.ipaForgedSpec.pre enc Tryd.prog Tryd.f3 [] false w args ∧ laidMetH Tryd.prog laidT w) ∧ sizedMet enc Tryd.prog Tryd.f3 (OpenSpec.ofChange Rows.ipaForgedSpec) false w args)
      (Rows.ipaForgedSpec.post enc Tryd.prog Tryd.f3 false true false false) := by
  refine returnsInHanded_of_change_and (C := Tryd.checked) (X := fun w _ => laidMetH Tryd.prog laidT w) (fun _ _ _ hh h => h.of_heap hh) own started (by kernel_rfl) Tryd.func3
    (ChangeSpec.witness_shaped (enc := enc) (C := Tryd.checked) (os := os) (X := fun w _ => laidMetH Tryd.prog laidT w) false (World.laidAll Tryd.prog os laidT)
      #[.agg #[.int .u64 0, .int .u64 0, .int .u64 0, .int .u64 0, .int .u64 0, .int .u64 0, .int .u64 0, .int .u64 0, .slice none 0 0, .slice none 0 0, .slice none 0 0, .slice none 0 0, .slice none 0 0, .slice none 0 0, .int .u64 0, .int .u64 0, .int .u64 0, .int .u64 0, .int .u64 0, .int .u64 0, .int .u64 0, .int .u64 0, .bool false, .slice none 0 0, .string ⟨#[]⟩, .int .i64 0]] 8 (World.laidAll_os _ _ _)
      (World.shaped_of_ZipB (by kernel_rfl) (by kernel_rfl)) (by kernel_rfl) (by kernel_rfl) (by kernel_rfl)
      (by rw [MakeChecks.laidMetH_plain _ _ _ (by kernel_rfl)]; exact laidMet_laidAll _ (by kernel_rfl) (by kernel_rfl))) ?_
  intro W base args ds gs before hval0 hW _ hwt hL _
  have hval : ∀ (j : Nat) t v, Tryd.f3.params[j]? = some t → args[j]? = some v → Value.okWide Tryd.prog W .any base t v := hval0
  have hW' := hW
  obtain ⟨p, q, hA0, hV, rfl, _, _⟩ := hW
  have hA : DataW.TrodAll enc Tryd.prog W 0 (fun _ => true) true Tryd.f3.params.toList args.toList ds p := hA0
  rw [Tryd.params3] at hA hval
  obtain ⟨v0, d0, rfl, rfl, h0⟩ := trodAll_one hA
  obtain ⟨rfl, rfl⟩ := trodVars_none hV
  have hGl := globs_of (tableOf hL)
  obtain ⟨g, hh, a, b, l, r, u, Q, P, ea, eb, nG, mG, nH, mH, nA, mA, nB, mB, nL, mL, nR, mR, nU, mU, zG, zH, zA, zB, zL, zR, zU, sc, lab, N, ρ, ⟨k1, k2, k3, k4, k5, k6, k7⟩, ⟨l1, l2, l3, l4⟩, ⟨o1, o2, o3, o4, o5, o6, o7⟩, _, ⟨s1, s2, s3, s4, s5, s6, s7⟩, hsim, hcon⟩ := case_of (hval 0 26 v0 rfl rfl) h0 (by
    refine weights_get (i := 0) (t := 26) (d := d0) ?_ ?_ hwt
    · rw [Tryd.params3]; rfl
    · rfl)
  have hs := hsim hGl
  have hs' := hs
  have hv := Go.Vs.Tryd.law_forged (G := GT) rfl g hh a b l r u Q P nG mG nH mH nA mA nB mB nL mL nR mR nU mU zG zH zA zB zL zR zU _ (Go.Vs.Tryd.case_c Q P nG mG nH mH nA mA nB mB nL mL nR mR nU mU zG zH zA zB zL zR zU ea eb (.bool sc) (.str lab) (.int .i64 N) rfl rfl rfl rfl rfl rfl (fun _ => rfl) (fun _ => rfl) (fun _ => rfl)) k1 k2 k3 k4 k5 k6 k7 l1 l2 o1 o2 o3 o4 o5 o6 o7 s1 s2 s3 s4 s5 s6 (by omega)
  simp only [List.append_nil] at hW'
  have hlt : ∀ x ∈ p, x.block < W.heap.size := fun x hx => hW'.lt x hx
  refine (Go.Vs.Tryd.calls_of (vs := [v0]) (r := .bool true) enters3 ?_ hv hs' (by simp only [concs, hcon]; rfl) (fun _ => rfl)).mono fun e W' ⟨he, hb⟩ => ?_
  · intro x hx
    simp only [List.mem_cons, List.not_mem_nil, or_false] at hx
    rcases hx with rfl | rfl | rfl | rfl | rfl | rfl | rfl <;> first | rfl | exact Go.Vs.Tryd.wrB_ivb ..
  subst he
  exact ⟨_, rfl, _, _, _, [], _, [], hW', trodAll_mk1 (shut_bool Tryd.underlying4 _), trodAll_mk1 (Below.trod (show laidOutB Tryd.prog = true by kernel_rfl) (by kernel_rfl) (of_decide_eq_true (by kernel_rfl)) h0 hb hlt), rfl, hb.frame _, fun h => by cases h⟩
theorem row_holds : Rows.IpaForgedSaid :=
  OpenClaim.holds_of_wide_leaving 3 Tryd.f3 rfl rfl rfl rfl rfl rfl rfl ⟨rfl, rfl, rfl, rfl, rfl⟩ rfl rfl rfl rfl rfl (by kernel_rfl) Tryd.func3 (by kernel_rfl)
    (of_decide_eq_true (by kernel_rfl)) (by unfold Func.isWrapper; first | (rw [if_pos (by decide +kernel)]; kernel_rfl) | (rw [if_neg (by decide +kernel)]; exact ⟨rfl, rfl⟩))
    (fun os started H enc _ => leavingWide_of_handed (lifted3 os started H enc))
theorem card_holds : Rows.IpaForgedCardSaid :=
  holds_tied_goes .later [.data] true (true, "f4c2dac332819245f49c1cc0ff8835d13a9222b47d4f7f02c9f11e14d6c11c56") true true row_holds (by kernel_rfl) ipaForged_row_tie rfl ⟨rfl, rfl⟩ (by kernel_rfl) rfl
    (fun f fn hf hfn => by
      obtain rfl : f = 3 := Option.some.inj ((show Tryd.prog.funcNamed "veil/veillaw12.IpaForged" = some 3 by kernel_rfl).symm.trans hf) |>.symm
      obtain rfl : fn = Tryd.f3 := (Option.some.inj (Tryd.func3.symm.trans hfn)).symm
      exact ⟨by kernel_rfl, fun j t ht => by
        rw [Tryd.params3] at ht
        have hm : t ∈ [26] := by simpa using Array.mem_of_getElem? ht
        have hall : ([26].all fun u => !Tryd.prog.wantsStandIn u) = true := by kernel_rfl
        exact (show Tryd.prog.wantsStandIn t = false by simpa using List.all_eq_true.1 hall t hm)⟩)
    (by kernel_rfl)
end Go.Proofs.YtgppccahbcbanaaDoor
