/- R7: what the functions of the program answer, over the machine of plain values. -/
import Derived.Test.YtaalannjlomiiaaDoorR6
set_option linter.unusedVariables false
set_option linter.unusedSimpArgs false
namespace Go.Vs.Tryd
open Go.Proofs
variable {G : Nat → List V}
set_option linter.unusedSimpArgs false
attribute [local go_sem] List.length_append List.all_append ge_iff_le gt_iff_lt Int.natCast_nonneg Int.toNat_natCast Nat.mul_one b_and_ll b_shr_ll b_mul_ll b_add_ll b_or_ll b_shl_ll pick_ll pick_lc pick_bb driveS stopV drive stepV exo expo evs fillV isNil nilKind eqV eqL optA optM sliceAtV ev kn ldc stc splice appV srcV lenV setd wantV exitV rvs rv one List.length_cons List.length_nil List.cons_append List.nil_append List.append_nil List.replicate List.getD_cons_zero List.getD_cons_succ List.set_cons_zero List.set_cons_succ List.getElem?_cons_zero List.getElem?_cons_succ List.getElem?_nil List.take_succ_cons List.take_zero List.take_nil List.drop_succ_cons List.drop_zero List.drop_nil List.all_cons List.all_nil List.any_cons List.any_nil Bool.and_true Bool.true_and Bool.and_self Option.map_some Option.map_none Option.bind_some Option.some.injEq Nat.add_zero Nat.zero_add Int.toNat_zero Int.toNat_one Int.zero_add Int.add_zero if_true if_false ite_true ite_false and_true true_and and_self ne_eq not_false_eq_true not_true_eq_false decide_true decide_false Bool.false_eq_true Bool.not_true Bool.not_false beq_self_eq_true BEq.rfl Bool.not_eq_true Nat.le_refl Int.le_refl Nat.zero_le List.foldl List.map_cons List.map_nil Prod.mk.injEq Int.cast_ofNat_Int Int.zero_le_ofNat b_add_cc b_add_cl b_add_lc b_mul_cc b_mul_cl b_mul_lc b_sub_cc b_sub_cl b_sub_lc b_and_cc b_and_cl b_and_lc b_or_cc b_or_cl b_or_lc b_xor_cc b_xor_cl b_xor_lc b_andNot_cc b_andNot_cl b_andNot_lc b_shr_cc b_shr_cl b_shr_lc b_shl_cc b_shl_cl b_shl_lc b_lss b_leq b_gtr b_geq b_add_i b_sub_i b_mul_i beq_cc beq_cl beq_lc beq_ll b_quo_i b_rem_i neg_u64 wrap_i64 driveD stepD idsAt idOf maskH_nil restore_nil restore_mask List.filterMap_nil List.filterMap_cons VOp.looks VOp.makes exA cells_agg cells_int cells_bool cells_str cells_nilp cells_ptr cells_glob cells_nils cells_sl cells_nilf cells_fn cells_nili cells_ifc known_agg known_tup known_int known_bool known_str known_nilp known_ptr known_glob known_nils known_sl known_nilf known_fn known_nili known_ifc known_unk one_agg one_tup one_int one_bool one_str one_nilp one_ptr one_glob one_nils one_sl one_nilf one_fn one_nili one_ifc asK_int asN_int asB_bool asS_str asG_agg asT_tup
attribute [local go_sem ↓] lc_len lc_take lc_drop lc_known lc_one lc_rens lc_cells lw_known lw_agg lw_asG
attribute [local go_sem] lt_nat lt_natl lt_lnat lt_ll
attribute [local go_sem ↓] wrow_len wrow_known wrow_one wrow_take wrow_fit wrow_rens
set_option maxRecDepth 100000
set_option maxHeartbeats 1000000

/-- The number of digits to the base 2^32. -/
def val (p : Nat → Nat) : Nat → Nat
  | 0 => 0
  | n + 1 => val p n + p n * 4294967296 ^ n
theorem val_congr {p p' : Nat → Nat} : ∀ {n : Nat}, (∀ j, j < n → p j = p' j) → val p n = val p' n
  | 0, _ => rfl
  | n + 1, h => by rw [val, val, val_congr (n := n) fun j hj => h j (by omega), h n (Nat.lt_succ_self n)]
theorem val_set (p : Nat → Nat) (v : Nat) : ∀ {n i : Nat}, i < n → val (upd p i v) n + p i * 4294967296 ^ i = val p n + v * 4294967296 ^ i
  | 0, i, h => by omega
  | n + 1, i, h => by
    rw [val, val]
    by_cases hi : i = n
    · subst hi
      rw [upd_same, val_congr (p := upd p i v) (p' := p) fun j hj => upd_ne (by omega)]
      omega
    · have := val_set p v (n := n) (i := i) (by omega)
      rw [upd_ne (fun e => hi e.symm)]
      omega
theorem val_dg (A : Nat) : ∀ n, val (dg A) n = A % 4294967296 ^ n
  | 0 => by rw [Nat.pow_zero, Nat.mod_one]; rfl
  | n + 1 => by
    rw [val, val_dg A n, dg, Nat.pow_succ, Nat.mod_mul, Nat.mul_comm (_ % _) (_ ^ _)]
theorem round_step {V0 V' pk Z v t c c' xy S X : Nat} (hs : V' + pk * Z = V0 + v * Z) (ht : t = xy + pk + c) (hv : t = v + 4294967296 * c') (hi : V0 + c * Z = S + X) : V' + c' * (Z * 4294967296) = S + (X + xy * Z) := by
  have e : t * Z = xy * Z + pk * Z + c * Z := by rw [ht, Nat.add_mul, Nat.add_mul]
  have e2 : t * Z = v * Z + c' * (Z * 4294967296) := by rw [hv, Nat.add_mul, Nat.mul_comm Z, ← Nat.mul_assoc c', Nat.mul_comm c']
  omega
theorem term (x y p c : Nat) (hx : x < 4294967296) (hy : y < 4294967296) (hp : p < 4294967296) (hc : c < 4294967296) : ∃ t v c', w64 (w64 (w64 (x * y) + p) + c) = t ∧ a64 t 4294967295 = v ∧ r64 t 32 = c' ∧ t = x * y + p + c ∧ t = v + 4294967296 * c' ∧ v < 4294967296 ∧ c' < 4294967296 := by
  have h : x * y ≤ 4294967295 * 4294967295 := Nat.mul_le_mul (by omega) (by omega)
  have e : w64 (w64 (w64 (x * y) + p) + c) = x * y + p + c := by unfold w64; omega
  refine ⟨_, _, _, rfl, rfl, rfl, e, ?_⟩
  rw [e, and32 _ (by omega)]
  have e2 : r64 (x * y + p + c) 32 = (x * y + p + c) / 4294967296 := rfl
  rw [e2]
  omega

def mt (i : Nat) (c : Int) (k : Nat) : List V := [.unk, .unk, .unk, .unk, .ptr 2 0, .ptr 3 0, .ptr 4 0, .ptr 5 0, .int .i64 i, .int .u64 c, .int .i64 k] ++ List.replicate 59 .unk
def mh (x y p : Nat → Nat) : Heap := [none, none, some ⟨.rw, lc 0⟩, some ⟨.rw, wrow 8 x⟩, some ⟨.rw, wrow 8 y⟩, some ⟨.rw, wrow 16 p⟩]

theorem mul_in (x y : Nat → Nat) (hx : ∀ j, x j < 4294967296) (hy : ∀ j, y j < 4294967296) (i S : Nat) (hi : i < 8) {Q : V → Heap → Prop} {K : List TI}
    (hK : ∀ (p : Nat → Nat) (c : Nat), (∀ j, p j < 4294967296) → c < 4294967296 → (∀ j, i + 8 ≤ j → p j = 0) → val p 16 + c * 4294967296 ^ (i + 8) = S + x i * 4294967296 ^ i * val y 8 → Run Tryd.prog G 18 0 Q (K, ⟨mt i c 8, mh x y p⟩)) :
    ∀ kk k, k + kk = 8 → ∀ (p : Nat → Nat) (c : Nat) (ci : Int), ci = (c : Int) → (∀ j, p j < 4294967296) → c < 4294967296 → (∀ j, i + 8 ≤ j → p j = 0) → val p 16 + c * 4294967296 ^ (i + k) = S + x i * 4294967296 ^ i * val y k → Run Tryd.prog G 18 0 Q (.l v18_14 :: .b 2 :: K, ⟨mt i ci k, mh x y p⟩)
  | 0, k, h, p, c, ci, hci, hp, hc, hz, hv => by
    obtain rfl : k = 8 := by omega
    subst hci
    unfold mt mh
    refine run_loop_eq v18_14.eq_1 ?_
    refine run_driveS 80 ?_
    simp only [go_sem, Nat.reduceAdd, Nat.reduceSub, Nat.reduceLeDiff, Nat.reduceMul, Nat.reduceLT, Nat.reduceEqDiff, Int.reduceLT, Int.reduceLE, Int.reduceAdd, Int.reduceSub, Int.reduceMul, Int.reduceToNat, reduceIte, reduceCtorEq, Nat.reduceBEq, v18_8]
    refine run_exit rfl ?_
    refine run_rename [0, 1, 2, 3, 4, 5] rfl (by simp) ?_ ?_ ?_ (hK p c hp hc hz hv)
    · unfold mh
      simp only [go_sem, Nat.reduceAdd, Nat.reduceSub, Nat.reduceLeDiff, Nat.reduceMul, Nat.reduceLT, Nat.reduceEqDiff, Int.reduceLT, Int.reduceLE, Int.reduceAdd, Int.reduceSub, Int.reduceMul, Int.reduceToNat, reduceIte, reduceCtorEq, Nat.reduceBEq, hfit, lc_fit, scs_fit, fit, ren, gmap, lw_plain, true_or, or_true]
    · simp [uniq, mh, wrB]
    · unfold mt
      simp only [go_sem, Nat.reduceAdd, Nat.reduceSub, Nat.reduceLeDiff, Nat.reduceMul, Nat.reduceLT, Nat.reduceEqDiff, Int.reduceLT, Int.reduceLE, Int.reduceAdd, Int.reduceSub, Int.reduceMul, Int.reduceToNat, reduceIte, reduceCtorEq, Nat.reduceBEq, hfit, lc_fit, scs_fit, fit, ren, gmap, lw_plain, true_or, or_true]
  | kk + 1, k, h, p, c, ci, hci, hp, hc, hz, hv => by
    subst hci
    obtain ⟨t, v, c', e1, e2, e3, e4, e5, hv', hc'⟩ := term (x i) (y k) (p (i + k)) c (hx i) (hy k) (hp _) hc
    have hset := val_set p v (n := 16) (i := i + k) (by omega)
    have hup : ∀ j, upd p (i + k) v j < 4294967296 := fun j => by unfold upd; split; exact hv'; exact hp j
    have hzp : ∀ j, i + 8 ≤ j → upd p (i + k) v j = 0 := fun j hj => by rw [upd_ne (by omega)]; exact hz j hj
    have hnew := round_step hset e4 e5 hv
    rw [← Nat.pow_succ, Nat.mul_comm (x i) (y k)] at hnew
    have ih := mul_in x y hx hy i S hi hK kk (k + 1) (by omega) (upd p (i + k) v) c' c' rfl hup hc' hzp (by
      rw [show i + (k + 1) = (i + k).succ by omega, hnew, val, Nat.mul_add, Nat.pow_add]
      congr 2
      rw [Nat.mul_comm (y k) (x i), Nat.mul_assoc, Nat.mul_assoc, Nat.mul_left_comm (y k)])
    have h0 : ((i : Int) < 8) = True := eq_true (by omega)
    have h1 : ((k : Int) < 8) = True := eq_true (by omega)
    have h2 : (((i + k : Nat) : Int) < 16) = True := eq_true (by omega)
    have hw : IntKind.i64.wrap ((i : Int) + (k : Int)) = ((i + k : Nat) : Int) := by rw [wrap_i64 (by omega) (by omega)]; omega
    have hw1 : IntKind.i64.wrap ((k : Int) + 1) = ((k + 1 : Nat) : Int) := by rw [wrap_i64 (by omega) (by omega)]; omega
    have g1 := wrow_get 8 x (i := i) (by omega)
    have g2 := wrow_get 8 y (i := k) (by omega)
    have g3 := wrow_get 16 p (i := i + k) (by omega)
    have g4 := wrow_set 16 p (i := i + k) (v := v) (by omega)
    have g5 : (i + k + 1 ≤ 16) = True := eq_true (by omega)
    unfold mt mh
    refine run_loop_eq v18_14.eq_1 ?_
    refine run_driveS 80 ?_
    simp only [go_sem, Nat.reduceAdd, Nat.reduceSub, Nat.reduceLeDiff, Nat.reduceMul, Nat.reduceLT, Nat.reduceEqDiff, Int.reduceLT, Int.reduceLE, Int.reduceAdd, Int.reduceSub, Int.reduceMul, Int.reduceToNat, reduceIte, reduceCtorEq, Nat.reduceBEq, v18_8, v18_12, h1]
    refine run_drw (by kernel_rfl) ?_
    refine drun_drive 40 (p := (_, _)) ?_
    simp only [go_sem, Nat.reduceAdd, Nat.reduceSub, Nat.reduceLeDiff, Nat.reduceMul, Nat.reduceLT, Nat.reduceEqDiff, Int.reduceLT, Int.reduceLE, Int.reduceAdd, Int.reduceSub, Int.reduceMul, Int.reduceToNat, reduceIte, reduceCtorEq, Nat.reduceBEq, v18_9, h0, h1, h2, hw, g1, g2, g3, e1]
    refine drun_end ?_
    refine run_driveS 80 ?_
    simp only [go_sem, Nat.reduceAdd, Nat.reduceSub, Nat.reduceLeDiff, Nat.reduceMul, Nat.reduceLT, Nat.reduceEqDiff, Int.reduceLT, Int.reduceLE, Int.reduceAdd, Int.reduceSub, Int.reduceMul, Int.reduceToNat, reduceIte, reduceCtorEq, Nat.reduceBEq, v18_10, v18_11, h2, hw, e2, e3, g4, g5]
    refine run_driveS 80 ?_
    simp only [go_sem, Nat.reduceAdd, Nat.reduceSub, Nat.reduceLeDiff, Nat.reduceMul, Nat.reduceLT, Nat.reduceEqDiff, Int.reduceLT, Int.reduceLE, Int.reduceAdd, Int.reduceSub, Int.reduceMul, Int.reduceToNat, reduceIte, reduceCtorEq, Nat.reduceBEq, v18_13, hw1]
    refine run_rename [0, 1, 2, 3, 4, 5] rfl (by simp) ?_ ?_ ?_ ih
    · unfold mh
      simp only [go_sem, Nat.reduceAdd, Nat.reduceSub, Nat.reduceLeDiff, Nat.reduceMul, Nat.reduceLT, Nat.reduceEqDiff, Int.reduceLT, Int.reduceLE, Int.reduceAdd, Int.reduceSub, Int.reduceMul, Int.reduceToNat, reduceIte, reduceCtorEq, Nat.reduceBEq, hfit, lc_fit, scs_fit, fit, ren, gmap, lw_plain, true_or, or_true]
    · simp [uniq, mh, wrB]
    · unfold mt
      simp only [go_sem, Nat.reduceAdd, Nat.reduceSub, Nat.reduceLeDiff, Nat.reduceMul, Nat.reduceLT, Nat.reduceEqDiff, Int.reduceLT, Int.reduceLE, Int.reduceAdd, Int.reduceSub, Int.reduceMul, Int.reduceToNat, reduceIte, reduceCtorEq, Nat.reduceBEq, hfit, lc_fit, scs_fit, fit, ren, gmap, lw_plain, true_or, or_true]

def mo (i : Nat) : List V := [.unk, .unk, .unk, .unk, .ptr 2 0, .ptr 3 0, .ptr 4 0, .ptr 5 0, .int .i64 i] ++ List.replicate 61 .unk

theorem mul_out (x y : Nat → Nat) (hx : ∀ j, x j < 4294967296) (hy : ∀ j, y j < 4294967296) {Q : V → Heap → Prop} {K : List TI}
    (hK : ∀ (p : Nat → Nat), (∀ j, p j < 4294967296) → val p 16 = val x 8 * val y 8 → Run Tryd.prog G 18 0 Q (K, ⟨mo 8, mh x y p⟩)) :
    ∀ n i, i + n = 8 → ∀ (p : Nat → Nat), (∀ j, p j < 4294967296) → (∀ j, i + 8 ≤ j → p j = 0) → val p 16 = val x i * val y 8 → Run Tryd.prog G 18 0 Q (.l v18_19 :: .b 0 :: K, ⟨mo i, mh x y p⟩)
  | 0, i, h, p, hp, hz, hv => by
    obtain rfl : i = 8 := by omega
    unfold mo mh
    refine run_loop_eq v18_19.eq_1 ?_
    refine run_driveS 80 ?_
    simp only [go_sem, Nat.reduceAdd, Nat.reduceSub, Nat.reduceLeDiff, Nat.reduceMul, Nat.reduceLT, Nat.reduceEqDiff, Int.reduceLT, Int.reduceLE, Int.reduceAdd, Int.reduceSub, Int.reduceMul, Int.reduceToNat, reduceIte, reduceCtorEq, Nat.reduceBEq, v18_5]
    refine run_exit rfl ?_
    refine run_rename [0, 1, 2, 3, 4, 5] rfl (by simp) ?_ ?_ ?_ (hK p hp hv)
    · unfold mh
      simp only [go_sem, Nat.reduceAdd, Nat.reduceSub, Nat.reduceLeDiff, Nat.reduceMul, Nat.reduceLT, Nat.reduceEqDiff, Int.reduceLT, Int.reduceLE, Int.reduceAdd, Int.reduceSub, Int.reduceMul, Int.reduceToNat, reduceIte, reduceCtorEq, Nat.reduceBEq, hfit, lc_fit, scs_fit, fit, ren, gmap, lw_plain, true_or, or_true]
    · simp [uniq, mh, wrB]
    · unfold mo
      simp only [go_sem, Nat.reduceAdd, Nat.reduceSub, Nat.reduceLeDiff, Nat.reduceMul, Nat.reduceLT, Nat.reduceEqDiff, Int.reduceLT, Int.reduceLE, Int.reduceAdd, Int.reduceSub, Int.reduceMul, Int.reduceToNat, reduceIte, reduceCtorEq, Nat.reduceBEq, hfit, lc_fit, scs_fit, fit, ren, gmap, lw_plain, true_or, or_true]
  | n + 1, i, h, p, hp, hz, hv => by
    have ih := mul_out x y hx hy hK n (i + 1) (by omega)
    have h0 : ((i : Int) < 8) = True := eq_true (by omega)
    unfold mo mh
    refine run_loop_eq v18_19.eq_1 ?_
    refine run_driveS 80 ?_
    simp only [go_sem, Nat.reduceAdd, Nat.reduceSub, Nat.reduceLeDiff, Nat.reduceMul, Nat.reduceLT, Nat.reduceEqDiff, Int.reduceLT, Int.reduceLE, Int.reduceAdd, Int.reduceSub, Int.reduceMul, Int.reduceToNat, reduceIte, reduceCtorEq, Nat.reduceBEq, v18_5, v18_17, v18_6, v18_7, v18_15, h0]
    refine run_rename [0, 1, 2, 3, 4, 5] rfl (by simp) ?_ ?_ ?_ (mul_in x y hx hy i (val x i * val y 8) (by omega) (K := .c (.reg v18_16) :: .b 1 :: .c (.reg v18_18) :: .l v18_19 :: .b 0 :: K) ?_ 8 0 rfl p 0 (nl 0) rfl hp (by decide) hz (by rw [hv]; simp only [val, Nat.mul_zero, Nat.zero_mul]))
    · unfold mh
      simp only [go_sem, Nat.reduceAdd, Nat.reduceSub, Nat.reduceLeDiff, Nat.reduceMul, Nat.reduceLT, Nat.reduceEqDiff, Int.reduceLT, Int.reduceLE, Int.reduceAdd, Int.reduceSub, Int.reduceMul, Int.reduceToNat, reduceIte, reduceCtorEq, Nat.reduceBEq, hfit, lc_fit, scs_fit, fit, ren, gmap, lw_plain, true_or, or_true]
    · simp [uniq, mh, wrB]
    · unfold mt
      simp only [go_sem, Nat.reduceAdd, Nat.reduceSub, Nat.reduceLeDiff, Nat.reduceMul, Nat.reduceLT, Nat.reduceEqDiff, Int.reduceLT, Int.reduceLE, Int.reduceAdd, Int.reduceSub, Int.reduceMul, Int.reduceToNat, reduceIte, reduceCtorEq, Nat.reduceBEq, hfit, lc_fit, scs_fit, fit, ren, gmap, lw_plain, true_or, or_true]
    · intro p' c hp' hc hz' hv'
      have hset := val_set p' c (n := 16) (i := i + 8) (by omega)
      rw [hz' (i + 8) (Nat.le_refl _), Nat.zero_mul, Nat.add_zero, hv', ← Nat.add_mul] at hset
      have h2 : (((i + 8 : Nat) : Int) < 16) = True := eq_true (by omega)
      have hw : IntKind.i64.wrap ((i : Int) + 8) = ((i + 8 : Nat) : Int) := by rw [wrap_i64 (by omega) (by omega)]; omega
      have hw1 : IntKind.i64.wrap ((i : Int) + 1) = ((i + 1 : Nat) : Int) := by rw [wrap_i64 (by omega) (by omega)]; omega
      have g4 := wrow_set 16 p' (i := i + 8) (v := c) (by omega)
      have g5 : (i + 8 + 1 ≤ 16) = True := eq_true (by omega)
      unfold mt mh
      refine run_driveS 80 ?_
      simp only [go_sem, Nat.reduceAdd, Nat.reduceSub, Nat.reduceLeDiff, Nat.reduceMul, Nat.reduceLT, Nat.reduceEqDiff, Int.reduceLT, Int.reduceLE, Int.reduceAdd, Int.reduceSub, Int.reduceMul, Int.reduceToNat, reduceIte, reduceCtorEq, Nat.reduceBEq, v18_16, v18_18, h2, hw, hw1, g4, g5]
      refine run_rename [0, 1, 2, 3, 4, 5] rfl (by simp) ?_ ?_ ?_ (ih (upd p' (i + 8) c) (fun j => by unfold upd; split; exact hc; exact hp' j) (fun j hj => by rw [upd_ne (by omega)]; exact hz' j (by omega)) hset)
      · unfold mh
        simp only [go_sem, Nat.reduceAdd, Nat.reduceSub, Nat.reduceLeDiff, Nat.reduceMul, Nat.reduceLT, Nat.reduceEqDiff, Int.reduceLT, Int.reduceLE, Int.reduceAdd, Int.reduceSub, Int.reduceMul, Int.reduceToNat, reduceIte, reduceCtorEq, Nat.reduceBEq, hfit, lc_fit, scs_fit, fit, ren, gmap, lw_plain, true_or, or_true]
      · simp [uniq, mh, wrB]
      · unfold mo
        simp only [go_sem, Nat.reduceAdd, Nat.reduceSub, Nat.reduceLeDiff, Nat.reduceMul, Nat.reduceLT, Nat.reduceEqDiff, Int.reduceLT, Int.reduceLE, Int.reduceAdd, Int.reduceSub, Int.reduceMul, Int.reduceToNat, reduceIte, reduceCtorEq, Nat.reduceBEq, hfit, lc_fit, scs_fit, fit, ren, gmap, lw_plain, true_or, or_true]

def mr (m : Nat) : List V := [.unk, .unk, .unk, .unk, .ptr 2 0, .unk, .unk, .ptr 5 0, .unk, .unk, .unk, .unk, .ptr 6 0, .int .i64 ((m : Int) - 1)] ++ List.replicate 56 .unk
def mrh (p : Nat → Nat) (r : Nat) : Heap := [none, none, some ⟨.rw, lc 0⟩, none, none, some ⟨.rw, wrow 16 p⟩, some ⟨.rw, lc (r % ell)⟩]

theorem red_step (r h l : Nat) : (65536 * ((65536 * (r % ell) + h) % ell) + l) % ell = (4294967296 * r + (65536 * h + l)) % ell := by
  have e1 : (65536 * (r % ell) + h) % ell = (65536 * r + h) % ell := by rw [Nat.add_mod, Nat.mul_mod_mod, ← Nat.add_mod]
  rw [e1, Nat.add_mod, Nat.mul_mod_mod, ← Nat.add_mod]
  congr 1
  omega

theorem mul_red (p : Nat → Nat) (hp : ∀ j, p j < 4294967296) {Q : V → Heap → Prop} (hQ : Q (lw (val p 16 % ell)) []) :
    ∀ m, m ≤ 16 → ∀ r, val p 16 = val p m + 4294967296 ^ m * r → Run Tryd.prog G 18 0 Q ([.l v18_28, .b 4, .c (.seq (.reg v18_30) .ret)], ⟨mr m, mrh p r⟩)
  | 0, _, r, hr => by
    rw [val, Nat.pow_zero, Nat.one_mul, Nat.zero_add] at hr
    unfold mr mrh
    refine run_loop_eq v18_28.eq_1 ?_
    refine run_driveS 80 ?_
    simp only [go_sem, Nat.reduceAdd, Nat.reduceSub, Nat.reduceLeDiff, Nat.reduceMul, Nat.reduceLT, Nat.reduceEqDiff, Int.reduceLT, Int.reduceLE, Int.reduceAdd, Int.reduceSub, Int.reduceMul, Int.reduceToNat, reduceIte, reduceCtorEq, Nat.reduceBEq, v18_23]
    refine run_exit rfl ?_
    refine run_driveS 80 ?_
    simp only [go_sem, Nat.reduceAdd, Nat.reduceSub, Nat.reduceLeDiff, Nat.reduceMul, Nat.reduceLT, Nat.reduceEqDiff, Int.reduceLT, Int.reduceLE, Int.reduceAdd, Int.reduceSub, Int.reduceMul, Int.reduceToNat, reduceIte, reduceCtorEq, Nat.reduceBEq, v18_30]
    refine run_ret_drop Tryd.func18 res18 [] (lw (val p 16 % ell)) [] rfl (by simp) trivial (by simp [uniq]) ?_ hQ
    simp only [go_sem, Nat.reduceAdd, Nat.reduceSub, Nat.reduceLeDiff, Nat.reduceMul, Nat.reduceLT, Nat.reduceEqDiff, Int.reduceLT, Int.reduceLE, Int.reduceAdd, Int.reduceSub, Int.reduceMul, Int.reduceToNat, reduceIte, reduceCtorEq, Nat.reduceBEq, r18, lw_plain, hr]
  | m + 1, hm, r, hr => by
    have hpm := hp m
    have e16 : r64 (p m) 16 = p m / 65536 := rfl
    have eL := and16 (p m) (by omega)
    have ih := mul_red p hp hQ m (by omega) (4294967296 * r + (65536 * (p m / 65536) + p m % 65536)) (by
      rw [hr, val, Nat.div_add_mod, Nat.mul_add, Nat.pow_succ, Nat.mul_assoc, Nat.mul_comm (p m)]
      omega)
    have h0 : ((m : Int) < 16) = True := eq_true (by omega)
    have hg := wrow_get 16 p (i := m) (by omega)
    have hw : IntKind.i64.wrap ((m : Int) - 1) = (m : Int) - 1 := wrap_i64 (by omega) (by omega)
    unfold mr mrh
    rw [show ((m + 1 : Nat) : Int) - 1 = (m : Int) by omega]
    refine run_loop_eq v18_28.eq_1 ?_
    refine run_driveS 80 ?_
    simp only [go_sem, Nat.reduceAdd, Nat.reduceSub, Nat.reduceLeDiff, Nat.reduceMul, Nat.reduceLT, Nat.reduceEqDiff, Int.reduceLT, Int.reduceLE, Int.reduceAdd, Int.reduceSub, Int.reduceMul, Int.reduceToNat, reduceIte, reduceCtorEq, Nat.reduceBEq, v18_23, v18_26]
    refine run_drw (by kernel_rfl) ?_
    refine drun_drive 40 (p := (_, _)) ?_
    simp only [go_sem, Nat.reduceAdd, Nat.reduceSub, Nat.reduceLeDiff, Nat.reduceMul, Nat.reduceLT, Nat.reduceEqDiff, Int.reduceLT, Int.reduceLE, Int.reduceAdd, Int.reduceSub, Int.reduceMul, Int.reduceToNat, reduceIte, reduceCtorEq, Nat.reduceBEq, v18_24, h0, hg, e16]
    refine drun_call' ?_
    simp only [go_sem, Nat.reduceAdd, Nat.reduceSub, Nat.reduceLeDiff, Nat.reduceMul, Nat.reduceLT, Nat.reduceEqDiff, Int.reduceLT, Int.reduceLE, Int.reduceAdd, Int.reduceSub, Int.reduceMul, Int.reduceToNat, reduceIte, reduceCtorEq, Nat.reduceBEq, calV]
    refine ref_step _ _ (mod_lt' _) (by omega) ?_
    refine drun_drive 40 (p := (_, _)) ?_
    simp only [go_sem, Nat.reduceAdd, Nat.reduceSub, Nat.reduceLeDiff, Nat.reduceMul, Nat.reduceLT, Nat.reduceEqDiff, Int.reduceLT, Int.reduceLE, Int.reduceAdd, Int.reduceSub, Int.reduceMul, Int.reduceToNat, reduceIte, reduceCtorEq, Nat.reduceBEq]
    refine drun_end ?_
    refine run_drw (by kernel_rfl) ?_
    refine drun_drive 40 (p := (_, _)) ?_
    simp only [go_sem, Nat.reduceAdd, Nat.reduceSub, Nat.reduceLeDiff, Nat.reduceMul, Nat.reduceLT, Nat.reduceEqDiff, Int.reduceLT, Int.reduceLE, Int.reduceAdd, Int.reduceSub, Int.reduceMul, Int.reduceToNat, reduceIte, reduceCtorEq, Nat.reduceBEq, v18_25, h0, hg, eL]
    refine drun_call' ?_
    simp only [go_sem, Nat.reduceAdd, Nat.reduceSub, Nat.reduceLeDiff, Nat.reduceMul, Nat.reduceLT, Nat.reduceEqDiff, Int.reduceLT, Int.reduceLE, Int.reduceAdd, Int.reduceSub, Int.reduceMul, Int.reduceToNat, reduceIte, reduceCtorEq, Nat.reduceBEq, calV]
    refine ref_step _ _ (mod_lt' _) (by omega) ?_
    rw [red_step]
    refine drun_drive 40 (p := (_, _)) ?_
    simp only [go_sem, Nat.reduceAdd, Nat.reduceSub, Nat.reduceLeDiff, Nat.reduceMul, Nat.reduceLT, Nat.reduceEqDiff, Int.reduceLT, Int.reduceLE, Int.reduceAdd, Int.reduceSub, Int.reduceMul, Int.reduceToNat, reduceIte, reduceCtorEq, Nat.reduceBEq]
    refine drun_end ?_
    refine run_driveS 80 ?_
    simp only [go_sem, Nat.reduceAdd, Nat.reduceSub, Nat.reduceLeDiff, Nat.reduceMul, Nat.reduceLT, Nat.reduceEqDiff, Int.reduceLT, Int.reduceLE, Int.reduceAdd, Int.reduceSub, Int.reduceMul, Int.reduceToNat, reduceIte, reduceCtorEq, Nat.reduceBEq, v18_27, hw]
    refine run_rename [0, 1, 2, 3, 4, 5, 6] rfl (by simp) ?_ ?_ ?_ ih
    · unfold mrh
      simp only [go_sem, Nat.reduceAdd, Nat.reduceSub, Nat.reduceLeDiff, Nat.reduceMul, Nat.reduceLT, Nat.reduceEqDiff, Int.reduceLT, Int.reduceLE, Int.reduceAdd, Int.reduceSub, Int.reduceMul, Int.reduceToNat, reduceIte, reduceCtorEq, Nat.reduceBEq, hfit, lc_fit, scs_fit, fit, ren, gmap, lw_plain, true_or, or_true]
    · simp [uniq, mrh, wrB]
    · unfold mr
      simp only [go_sem, Nat.reduceAdd, Nat.reduceSub, Nat.reduceLeDiff, Nat.reduceMul, Nat.reduceLT, Nat.reduceEqDiff, Int.reduceLT, Int.reduceLE, Int.reduceAdd, Int.reduceSub, Int.reduceMul, Int.reduceToNat, reduceIte, reduceCtorEq, Nat.reduceBEq, hfit, lc_fit, scs_fit, fit, ren, gmap, lw_plain, true_or, or_true]

theorem ref_mul (A B : Nat) (hA : A < 115792089237316195423570985008687907853269984665640564039457584007913129639936) (hB : B < 115792089237316195423570985008687907853269984665640564039457584007913129639936) {h : Heap} {R : V → Heap → Prop} (hQ : R (lw (A * B % ell)) h) : VCall Tryd.prog G 18 [lw A, lw B] h R := by
  refine vcall_plain (Q := fun v => v = lw (A * B % ell)) ?_ (fun g => by simp only [rens, ren, lw_plain]) (fun v g hv => by subst hv; exact lw_plain _ g) (fun v hv => by subst hv; exact hQ)
  refine vcall_body Tryd.func18 nm18 code18 nt18 ?_
  refine run_driveS 80 ?_
  simp only [go_sem, Nat.reduceAdd, Nat.reduceSub, Nat.reduceLeDiff, Nat.reduceMul, Nat.reduceLT, Nat.reduceEqDiff, Int.reduceLT, Int.reduceLE, Int.reduceAdd, Int.reduceSub, Int.reduceMul, Int.reduceToNat, reduceIte, reduceCtorEq, Nat.reduceBEq, v18, v18_0, v18_1]
  refine run_call' rfl ?_
  simp only [go_sem, Nat.reduceAdd, Nat.reduceSub, Nat.reduceLeDiff, Nat.reduceMul, Nat.reduceLT, Nat.reduceEqDiff, Int.reduceLT, Int.reduceLE, Int.reduceAdd, Int.reduceSub, Int.reduceMul, Int.reduceToNat, reduceIte, reduceCtorEq, Nat.reduceBEq, calV]
  refine ref_halves A hA ?_
  refine run_driveS 80 ?_
  simp only [go_sem, Nat.reduceAdd, Nat.reduceSub, Nat.reduceLeDiff, Nat.reduceMul, Nat.reduceLT, Nat.reduceEqDiff, Int.reduceLT, Int.reduceLE, Int.reduceAdd, Int.reduceSub, Int.reduceMul, Int.reduceToNat, reduceIte, reduceCtorEq, Nat.reduceBEq, v18_2]
  refine run_call' rfl ?_
  simp only [go_sem, Nat.reduceAdd, Nat.reduceSub, Nat.reduceLeDiff, Nat.reduceMul, Nat.reduceLT, Nat.reduceEqDiff, Int.reduceLT, Int.reduceLE, Int.reduceAdd, Int.reduceSub, Int.reduceMul, Int.reduceToNat, reduceIte, reduceCtorEq, Nat.reduceBEq, calV]
  refine ref_halves B hB ?_
  refine run_driveS 80 ?_
  simp only [go_sem, Nat.reduceAdd, Nat.reduceSub, Nat.reduceLeDiff, Nat.reduceMul, Nat.reduceLT, Nat.reduceEqDiff, Int.reduceLT, Int.reduceLE, Int.reduceAdd, Int.reduceSub, Int.reduceMul, Int.reduceToNat, reduceIte, reduceCtorEq, Nat.reduceBEq, v18_3, v18_4, v18_20]
  have vA : val (dg A) 8 = A := by rw [val_dg]; exact Nat.mod_eq_of_lt hA
  have vB : val (dg B) 8 = B := by rw [val_dg]; exact Nat.mod_eq_of_lt hB
  refine run_rename [0, 1, 2, 3, 4, 5] rfl (by simp) ?_ ?_ ?_ (mul_out (dg A) (dg B) (dg_lt A) (dg_lt B) (K := [.c (.seq (.reg v18_21) (.seq (.seq (.reg v18_22) (.block 4 v18_29)) (.seq (.reg v18_30) .ret)))]) ?_ 8 0 rfl (fun _ => 0) (fun _ => by decide) (fun _ _ => rfl) (by simp [val]))
  · unfold mh
    rw [show wrow 16 (fun _ => 0) = [.int .u64 (nl 0), .int .u64 (nl 0), .int .u64 (nl 0), .int .u64 (nl 0), .int .u64 (nl 0), .int .u64 (nl 0), .int .u64 (nl 0), .int .u64 (nl 0), .int .u64 (nl 0), .int .u64 (nl 0), .int .u64 (nl 0), .int .u64 (nl 0), .int .u64 (nl 0), .int .u64 (nl 0), .int .u64 (nl 0), .int .u64 (nl 0)] from rfl]
    simp only [go_sem, Nat.reduceAdd, Nat.reduceSub, Nat.reduceLeDiff, Nat.reduceMul, Nat.reduceLT, Nat.reduceEqDiff, Int.reduceLT, Int.reduceLE, Int.reduceAdd, Int.reduceSub, Int.reduceMul, Int.reduceToNat, reduceIte, reduceCtorEq, Nat.reduceBEq, hfit, lc_fit, scs_fit, fit, ren, gmap, lw_plain, true_or, or_true, lc_zero]
  · simp [uniq, mh, wrB]
  · unfold mo
    simp only [go_sem, Nat.reduceAdd, Nat.reduceSub, Nat.reduceLeDiff, Nat.reduceMul, Nat.reduceLT, Nat.reduceEqDiff, Int.reduceLT, Int.reduceLE, Int.reduceAdd, Int.reduceSub, Int.reduceMul, Int.reduceToNat, reduceIte, reduceCtorEq, Nat.reduceBEq, hfit, lc_fit, scs_fit, fit, ren, gmap, lw_plain, true_or, or_true]
  · intro p hp hv
    rw [vA, vB] at hv
    unfold mo mh
    refine run_driveS 80 ?_
    simp only [go_sem, Nat.reduceAdd, Nat.reduceSub, Nat.reduceLeDiff, Nat.reduceMul, Nat.reduceLT, Nat.reduceEqDiff, Int.reduceLT, Int.reduceLE, Int.reduceAdd, Int.reduceSub, Int.reduceMul, Int.reduceToNat, reduceIte, reduceCtorEq, Nat.reduceBEq, v18_21, v18_22, v18_29]
    refine run_rename [0, 1, 2, 3, 4, 5, 6] rfl (by simp) ?_ ?_ ?_ (mul_red p hp ⟨by rw [hv], rfl⟩ 16 (Nat.le_refl 16) 0 (by rw [Nat.mul_zero, Nat.add_zero]))
    · unfold mrh
      rw [Nat.zero_mod]
      simp only [go_sem, Nat.reduceAdd, Nat.reduceSub, Nat.reduceLeDiff, Nat.reduceMul, Nat.reduceLT, Nat.reduceEqDiff, Int.reduceLT, Int.reduceLE, Int.reduceAdd, Int.reduceSub, Int.reduceMul, Int.reduceToNat, reduceIte, reduceCtorEq, Nat.reduceBEq, hfit, lc_fit, scs_fit, fit, ren, gmap, lw_plain, true_or, or_true, lc_zero]
    · simp [uniq, mrh, wrB]
    · unfold mr
      simp only [go_sem, Nat.reduceAdd, Nat.reduceSub, Nat.reduceLeDiff, Nat.reduceMul, Nat.reduceLT, Nat.reduceEqDiff, Int.reduceLT, Int.reduceLE, Int.reduceAdd, Int.reduceSub, Int.reduceMul, Int.reduceToNat, reduceIte, reduceCtorEq, Nat.reduceBEq, hfit, lc_fit, scs_fit, fit, ren, gmap, lw_plain, true_or, or_true]
end Go.Vs.Tryd
