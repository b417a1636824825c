/- Text 9 of 10 of this claim: a machine of plain values beside the model, what the functions of the program and of the reference answer over it, and last the row and its card. -/
import Derived.Test.YtebekndmhgmfbaaDoorRK8
set_option linter.unusedVariables false
set_option linter.unusedSimpArgs false
namespace Go.Vs.Tryd
open Go.Proofs
variable {G : Nat → List V}
set_option linter.unusedSimpArgs false
attribute [local go_sem] lenO_nils lenO_sl sliceAtV Int.sub_zero List.length_append List.all_append ge_iff_le gt_iff_lt Int.natCast_nonneg Int.toNat_natCast Nat.mul_one b_and_ll b_shr_ll b_mul_ll b_add_ll b_or_ll b_shl_ll pick_ll pick_lc pick_bb driveS stopV Option.isSome_some Option.isSome_none Kind.m Kind.w Kind.g look_ro look_rw look_grow drive stepV exo expo evs fillV isNil nilKind eqV eqL optA optM sliceAtV ev kn ldc stc splice appV srcV lenV setd wantV exitV rvs rv one List.length_cons List.length_nil List.cons_append List.nil_append List.append_nil List.replicate List.getD_cons_zero List.getD_cons_succ List.set_cons_zero List.set_cons_succ List.getElem?_cons_zero List.getElem?_cons_succ List.getElem?_nil List.take_succ_cons List.take_zero List.take_nil List.drop_succ_cons List.drop_zero List.drop_nil List.all_cons List.all_nil List.any_cons List.any_nil Bool.and_true Bool.true_and Bool.and_self Option.map_some Option.map_none Option.bind_some Option.some.injEq Nat.add_zero Nat.zero_add Int.toNat_zero Int.toNat_one Int.zero_add Int.add_zero if_true if_false ite_true ite_false and_true true_and and_self ne_eq not_false_eq_true not_true_eq_false decide_true decide_false Bool.false_eq_true Bool.not_true Bool.not_false beq_self_eq_true BEq.rfl Bool.not_eq_true Nat.le_refl Int.le_refl Nat.zero_le List.foldl List.map_cons List.map_nil Prod.mk.injEq Int.cast_ofNat_Int Int.zero_le_ofNat b_add_cc b_add_cl b_add_lc b_mul_cc b_mul_cl b_mul_lc b_sub_cc b_sub_cl b_sub_lc b_and_cc b_and_cl b_and_lc b_or_cc b_or_cl b_or_lc b_xor_cc b_xor_cl b_xor_lc b_andNot_cc b_andNot_cl b_andNot_lc b_shr_cc b_shr_cl b_shr_lc b_shl_cc b_shl_cl b_shl_lc b_lss b_leq b_gtr b_geq b_add_i b_sub_i b_mul_i beq_cc beq_cl beq_lc beq_ll b_quo_i b_rem_i neg_u64 wrap_i64 driveD stepD idsAt idOf maskH_nil restore_nil restore_mask List.filterMap_nil List.filterMap_cons VOp.looks VOp.makes exA cells_agg cells_int cells_bool cells_str cells_nilp cells_ptr cells_glob cells_nils cells_sl cells_nilf cells_fn cells_nili cells_ifc known_agg known_tup known_int known_bool known_str known_nilp known_ptr known_glob known_nils known_sl known_nilf known_fn known_nili known_ifc known_unk one_agg one_tup one_int one_bool one_str one_nilp one_ptr one_glob one_nils one_sl one_nilf one_fn one_nili one_ifc asK_int asN_int asB_bool asS_str asG_agg asT_tup true_or or_true false_or or_false
attribute [local go_sem_proc] Nat.reduceAdd Nat.reduceSub Nat.reduceLeDiff Nat.reduceMul Nat.reduceLT Nat.reduceEqDiff Int.reduceLT Int.reduceLE Int.reduceAdd Int.reduceSub Int.reduceMul Int.reduceToNat reduceIte reduceCtorEq Nat.reduceBEq
section
attribute [local go_sem ↓] lc_len lc_take lc_drop lc_known lc_one lc_rens lc_cells lw_known lw_agg lw_asG scs_known scs_one scs_len
attribute [local go_sem] lt_nat lt_natl lt_lnat lt_ll bool_tf bool_ft
attribute [local go_sem ↓] ecs_len ecs_take ecs_drop ecs_known ecs_one ecs_rens ecs_fit ecs_cells ew_known ew_agg ew_asG ecs_kind ecs_k ecs_l ers_known ers_one ers_len ers_rens ers_fit
attribute [local go_sem ↓] ecs_take_add ecs_drop_add lc_take_add lc_drop_add lenO_de lenO_dv de_known dv_known de_one dv_one de_ren dv_ren
set_option maxRecDepth 100000
set_option maxHeartbeats 2000000
def pgs : Nat → Nat
  | 0 => 1
  | t + 1 => 6 + 2 * t
def phs : Nat → Nat
  | 0 => 2
  | t + 1 => 7 + 2 * t
section
variable (us g h Lf Rf : Nat → Nat) (N P Q' : Nat)
noncomputable def wst (p q : Nat → Nat) (t : Nat) : List V := ecs (Ps us Lf Rf P t) ++ (ecs Q' ++ [.sl (p t) 0 (2 ^ (N - t)) (.grow 26), .sl (q t) 0 (2 ^ (N - t)) (.grow 26)])
noncomputable def wts (p q : Nat → Nat) (n : Nat) : List V := row n (wst us Lf Rf N P Q' p q)
noncomputable def DE (i j : Nat) : Option Blk := if j / 2 < i then some ⟨.ro, ers (2 ^ (N - (j / 2 + 1))) (if j % 2 = 0 then Gs us g N (j / 2 + 1) else Hs us h N (j / 2 + 1))⟩ else none
end
theorem wst_len (us Lf Rf : Nat → Nat) (N P Q' : Nat) (p q : Nat → Nat) (t : Nat) : (wst us Lf Rf N P Q' p q t).length = 54 := rfl
theorem wts_len (us Lf Rf : Nat → Nat) (N P Q' : Nat) (p q : Nat → Nat) (n : Nat) : (wts us Lf Rf N P Q' p q n).length = n * 54 := row_len (wst_len us Lf Rf N P Q' p q) n
theorem wts_take (us Lf Rf : Nat → Nat) (N P Q' : Nat) (p q : Nat → Nat) (n : Nat) : (wts us Lf Rf N P Q' p q n).take (n * 54) = wts us Lf Rf N P Q' p q n := List.take_of_length_le (by rw [wts_len]; exact Nat.le_refl _)
theorem wst_known (us Lf Rf : Nat → Nat) (N P Q' : Nat) (p q : Nat → Nat) (t : Nat) : (wst us Lf Rf N P Q' p q t).all V.known = true := rfl
theorem wst_one (us Lf Rf : Nat → Nat) (N P Q' : Nat) (p q : Nat → Nat) (t : Nat) : (wst us Lf Rf N P Q' p q t).all V.one = true := rfl
theorem wts_known (us Lf Rf : Nat → Nat) (N P Q' : Nat) (p q : Nat → Nat) (n : Nat) : (wts us Lf Rf N P Q' p q n).all V.known = true := row_all (wst_known us Lf Rf N P Q' p q) n
theorem wts_one (us Lf Rf : Nat → Nat) (N P Q' : Nat) (p q : Nat → Nat) (n : Nat) : (wts us Lf Rf N P Q' p q n).all V.one = true := row_all (wst_one us Lf Rf N P Q' p q) n
theorem wts_get (us Lf Rf : Nat → Nat) (N P Q' : Nat) (p q : Nat → Nat) {n i : Nat} (hi : i < n) : ((wts us Lf Rf N P Q' p q n).drop (i * 54)).take 54 = wst us Lf Rf N P Q' p q i := row_get' (wst_len us Lf Rf N P Q' p q) hi
theorem wst_ren (us Lf Rf : Nat → Nat) (N P Q' : Nat) (p q : Nat → Nat) (f : Nat → Nat) (t : Nat) : rens f (wst us Lf Rf N P Q' p q t) = wst us Lf Rf N P Q' (fun j => f (p j)) (fun j => f (q j)) t := by
  unfold wst
  simp only [rens_append, ecs_rens, rens, ren]
theorem rens_row (f : Nat → Nat) (e : Nat → List V) : ∀ n, rens f (row n e) = row n fun j => rens f (e j)
  | 0 => rfl
  | n + 1 => by rw [row, row, rens_append, rens_row f e n]
theorem wts_ren (us Lf Rf : Nat → Nat) (N P Q' : Nat) (p q p' q' : Nat → Nat) (f : Nat → Nat) (n : Nat) (hp : ∀ t, t < n → f (p t) = p' t) (hq : ∀ t, t < n → f (q t) = q' t) : rens f (wts us Lf Rf N P Q' p q n) = wts us Lf Rf N P Q' p' q' n := by
  unfold wts
  rw [rens_row]
  refine row_congr fun t ht => ?_
  rw [wst_ren]
  unfold wst
  simp only [hp t ht, hq t ht]
theorem DE_keep {us g h : Nat → Nat} {N i j : Nat} (hj : j / 2 ≠ i) {f : Nat → Nat} : bfit f (DE us g h N (i + 1) j) (DE us g h N i j) := by
  unfold DE
  by_cases h1 : j / 2 < i
  · rw [if_pos h1, if_pos (by omega)]
    exact bfit_same (ers_rens ..)
  · rw [if_neg h1, if_neg (by omega)]
    trivial
theorem DE_fit {us g h : Nat → Nat} {N i j : Nat} {f : Nat → Nat} : bfit f (DE us g h N i j) (DE us g h N i j) := by
  unfold DE
  split
  · exact bfit_same (ers_rens ..)
  · trivial
theorem DE_none {us g h : Nat → Nat} {N j : Nat} : DE us g h N 0 j = none := if_neg (by omega)
theorem DE_G (us g h : Nat → Nat) (N i : Nat) : DE us g h N (i + 1) (2 * i) = some ⟨.ro, ers (2 ^ (N - (i + 1))) (Gs us g N (i + 1))⟩ := by
  unfold DE
  rw [if_pos (by omega), if_pos (by omega), show 2 * i / 2 = i by omega]
theorem DE_H (us g h : Nat → Nat) (N i : Nat) : DE us g h N (i + 1) (2 * i + 1) = some ⟨.ro, ers (2 ^ (N - (i + 1))) (Hs us h N (i + 1))⟩ := by
  unfold DE
  rw [if_pos (by omega), if_neg (by omega), show (2 * i + 1) / 2 = i by omega]
theorem DE_newG {us g h : Nat → Nat} {N i : Nat} {f : Nat → Nat} : bfit f (DE us g h N (i + 1) (2 * i)) (some ⟨.grow, ers (2 ^ (N - (i + 1))) (Gs us g N (i + 1))⟩) := by
  rw [DE_G]
  exact bfit_same (ers_rens ..)
theorem DE_newH {us g h : Nat → Nat} {N i : Nat} {f : Nat → Nat} : bfit f (DE us g h N (i + 1) (2 * i + 1)) (some ⟨.grow, ers (2 ^ (N - (i + 1))) (Hs us h N (i + 1))⟩) := by
  rw [DE_H]
  exact bfit_same (ers_rens ..)
theorem wrB_DE (us g h : Nat → Nat) (N i j : Nat) : wrB (DE us g h N i j) = false := by
  unfold DE
  split <;> rfl
theorem bfit_e2 {f : Nat → Nat} {P Q i j i' j' n : Nat} {c d : Cap} (hi : f i = i') (hj : f j = j') : bfit f (some ⟨.rw, ecs P ++ (ecs Q ++ [.sl i 0 n c, .sl j 0 n d])⟩) (some ⟨.rw, ecs P ++ (ecs Q ++ [.sl i' 0 n c, .sl j' 0 n d])⟩) := by
  refine ⟨.inl rfl, ?_⟩
  have h := fit_rens f (ecs P ++ (ecs Q ++ [.sl i 0 n c, .sl j 0 n d]))
  simpa only [rens_append, ecs_rens, rens, ren, hi, hj] using h
theorem bfit_wts {us Lf Rf : Nat → Nat} {N P Q' n a b : Nat} {k : Kind} {f : Nat → Nat} (hp : ∀ t, t < n → f (pgs t) = pgs t) (hq : ∀ t, t < n → f (phs t) = phs t) (ha : f (pgs n) = a) (hb : f (phs n) = b) :
    bfit f (some ⟨k, wts us Lf Rf N P Q' pgs phs (n + 1)⟩) (some ⟨k, wts us Lf Rf N P Q' pgs phs n ++ (ecs (Ps us Lf Rf P n) ++ (ecs Q' ++ [.sl a 0 (2 ^ (N - n)) (.grow 26), .sl b 0 (2 ^ (N - n)) (.grow 26)]))⟩) := by
  refine ⟨.inl rfl, ?_⟩
  show fit f (wts us Lf Rf N P Q' pgs phs n ++ wst us Lf Rf N P Q' pgs phs n) _
  refine fit_append f (fit_same (wts_ren us Lf Rf N P Q' pgs phs pgs phs f n hp hq)) ?_
  have h := fit_rens f (wst us Lf Rf N P Q' pgs phs n)
  rw [wst_ren] at h
  unfold wst at h ⊢
  simp only [ha, hb] at h
  exact h
theorem pq_fix {f : Nat → Nat} {t : Nat} (hf : ∀ i, i < 26 → f i = i) (ht : t < 11) : f (pgs t) = pgs t := hf _ (by cases t <;> simp only [pgs] <;> omega)
theorem pq_fix' {f : Nat → Nat} {t : Nat} (hf : ∀ i, i < 26 → f i = i) (ht : t < 11) : f (phs t) = phs t := hf _ (by cases t <;> simp only [phs] <;> omega)
theorem gmap_pre {L j : Nat} {μ : List Nat} (k : Nat) (rest : List Nat) (e : μ = List.range k ++ rest) (hj : j < k) : gmap μ L j = j := gmap_lt (by rw [e, List.getElem?_append_left (by simpa using hj), List.getElem?_range hj])
theorem gmap_q26 {L j : Nat} (hj : j < 26) : gmap [0, 1, 2, 3, 4, 5, 6, 7, 8, 9, 10, 11, 12, 13, 14, 15, 16, 17, 18, 19, 20, 21, 22, 23, 24, 25] L j = j := gmap_lt (by rw [show ([0, 1, 2, 3, 4, 5, 6, 7, 8, 9, 10, 11, 12, 13, 14, 15, 16, 17, 18, 19, 20, 21, 22, 23, 24, 25] : List Nat) = List.range 26 by decide, List.getElem?_range hj])
section
variable (us g h Lf Rf : Nat → Nat) (N P Q' a b : Nat)
def rv19 (i : Nat) (c : Cap) : List V := [.unk, .unk, dv 0 N, .ptr 26 0, .ptr 27 0, .unk, .unk, .sl 5 0 (i + 1) c, .int .i64 i] ++ List.replicate 34 .unk
noncomputable def rh19 (i : Nat) (k : Kind) : Heap := [rob us N, some ⟨.ro, ers (2 ^ N) g⟩, some ⟨.ro, ers (2 ^ N) h⟩, eb Lf N, eb Rf N, some ⟨k, wts us Lf Rf N P Q' pgs phs (i + 1)⟩, DE us g h N i 0, DE us g h N i 1, DE us g h N i 2, DE us g h N i 3, DE us g h N i 4, DE us g h N i 5, DE us g h N i 6, DE us g h N i 7, DE us g h N i 8, DE us g h N i 9, DE us g h N i 10, DE us g h N i 11, DE us g h N i 12, DE us g h N i 13, DE us g h N i 14, DE us g h N i 15, DE us g h N i 16, DE us g h N i 17, DE us g h N i 18, DE us g h N i 19, some ⟨.rw, ecs (Ps us Lf Rf P i) ++ (ecs Q' ++ [.sl (pgs i) 0 (2 ^ (N - i)) (.grow 26), .sl (phs i) 0 (2 ^ (N - i)) (.grow 26)])⟩, some ⟨.rw, de 3 N :: de 4 N :: (lc a ++ lc b)⟩]
theorem pg_get (i : Nat) (hi : i ≤ 10) (A B C D : Option Blk) (X : Heap) : (A :: some ⟨.ro, ers (2 ^ N) g⟩ :: some ⟨.ro, ers (2 ^ N) h⟩ :: B :: C :: D :: DE us g h N i 0 :: DE us g h N i 1 :: DE us g h N i 2 :: DE us g h N i 3 :: DE us g h N i 4 :: DE us g h N i 5 :: DE us g h N i 6 :: DE us g h N i 7 :: DE us g h N i 8 :: DE us g h N i 9 :: DE us g h N i 10 :: DE us g h N i 11 :: DE us g h N i 12 :: DE us g h N i 13 :: DE us g h N i 14 :: DE us g h N i 15 :: DE us g h N i 16 :: DE us g h N i 17 :: DE us g h N i 18 :: DE us g h N i 19 :: X)[pgs i]? = some (some ⟨.ro, ers (2 ^ (N - i)) (Gs us g N i)⟩) := by
  match i, hi with
  | 0, _ => rfl
  | 1, _ => exact congrArg some (DE_G us g h N 0)
  | 2, _ => exact congrArg some (DE_G us g h N 1)
  | 3, _ => exact congrArg some (DE_G us g h N 2)
  | 4, _ => exact congrArg some (DE_G us g h N 3)
  | 5, _ => exact congrArg some (DE_G us g h N 4)
  | 6, _ => exact congrArg some (DE_G us g h N 5)
  | 7, _ => exact congrArg some (DE_G us g h N 6)
  | 8, _ => exact congrArg some (DE_G us g h N 7)
  | 9, _ => exact congrArg some (DE_G us g h N 8)
  | 10, _ => exact congrArg some (DE_G us g h N 9)
theorem ph_get (i : Nat) (hi : i ≤ 10) (A B C D : Option Blk) (X : Heap) : (A :: some ⟨.ro, ers (2 ^ N) g⟩ :: some ⟨.ro, ers (2 ^ N) h⟩ :: B :: C :: D :: DE us g h N i 0 :: DE us g h N i 1 :: DE us g h N i 2 :: DE us g h N i 3 :: DE us g h N i 4 :: DE us g h N i 5 :: DE us g h N i 6 :: DE us g h N i 7 :: DE us g h N i 8 :: DE us g h N i 9 :: DE us g h N i 10 :: DE us g h N i 11 :: DE us g h N i 12 :: DE us g h N i 13 :: DE us g h N i 14 :: DE us g h N i 15 :: DE us g h N i 16 :: DE us g h N i 17 :: DE us g h N i 18 :: DE us g h N i 19 :: X)[phs i]? = some (some ⟨.ro, ers (2 ^ (N - i)) (Hs us h N i)⟩) := by
  match i, hi with
  | 0, _ => rfl
  | 1, _ => exact congrArg some (DE_H us g h N 0)
  | 2, _ => exact congrArg some (DE_H us g h N 1)
  | 3, _ => exact congrArg some (DE_H us g h N 2)
  | 4, _ => exact congrArg some (DE_H us g h N 3)
  | 5, _ => exact congrArg some (DE_H us g h N 4)
  | 6, _ => exact congrArg some (DE_H us g h N 5)
  | 7, _ => exact congrArg some (DE_H us g h N 6)
  | 8, _ => exact congrArg some (DE_H us g h N 7)
  | 9, _ => exact congrArg some (DE_H us g h N 8)
  | 10, _ => exact congrArg some (DE_H us g h N 9)
theorem all_next {Q : V → Heap → Prop} (hN0 : 0 < N) (i : Nat) (hi : i ≤ 9) (tm : List V) (O X : Option Blk) (ht : ∀ f : Nat → Nat, f 5 = 31 → f 26 = 26 → f 27 = 27 → (∀ j, j < 5 → f j = j) → fit f (rv19 N (i + 1) (.grow 54)) tm)
    (ih : Run Tryd.prog G 19 5 Q ([.l v19_10, .b 0, .c (.seq (.reg v19_12) .ret)], ⟨rv19 N (i + 1) (.grow 54), rh19 us g h Lf Rf N P Q' a b (i + 1) .grow⟩)) :
    Run Tryd.prog G 19 5 Q ([.l v19_10, .b 0, .c (.seq (.reg v19_12) .ret)], ⟨tm, [some ⟨.ro, scs N us⟩, some ⟨.ro, ers (2 ^ N) g⟩, some ⟨.ro, ers (2 ^ N) h⟩, some ⟨.ro, ers N Lf⟩, some ⟨.ro, ers N Rf⟩, O, DE us g h N i 0, DE us g h N i 1, DE us g h N i 2, DE us g h N i 3, DE us g h N i 4, DE us g h N i 5, DE us g h N i 6, DE us g h N i 7, DE us g h N i 8, DE us g h N i 9, DE us g h N i 10, DE us g h N i 11, DE us g h N i 12, DE us g h N i 13, DE us g h N i 14, DE us g h N i 15, DE us g h N i 16, DE us g h N i 17, DE us g h N i 18, DE us g h N i 19, some ⟨.rw, ecs (Ps us Lf Rf P (i + 1)) ++ (ecs Q' ++ [.sl 28 0 (2 ^ (N - (i + 1))) (.grow 26), .sl 29 0 (2 ^ (N - (i + 1))) (.grow 26)])⟩, some ⟨.rw, .sl 3 0 N (.grow 26) :: .sl 4 0 N (.grow 26) :: (lc a ++ lc b)⟩, some ⟨.grow, ers (2 ^ (N - (i + 1))) (Gs us g N (i + 1))⟩, some ⟨.grow, ers (2 ^ (N - (i + 1))) (Hs us h N (i + 1))⟩, X, some ⟨.grow, wts us Lf Rf N P Q' pgs phs (i + 1) ++ (ecs (Ps us Lf Rf P (i + 1)) ++ (ecs Q' ++ [.sl 28 0 (2 ^ (N - (i + 1))) (.grow 26), .sl 29 0 (2 ^ (N - (i + 1))) (.grow 26)]))⟩]⟩) := by
  unfold rh19 at ih
  rw [rob_pos hN0, eb_pos hN0, eb_pos hN0, de_pos hN0, de_pos hN0] at ih
  obtain rfl | rfl | rfl | rfl | rfl | rfl | rfl | rfl | rfl | rfl : i = 0 ∨ i = 1 ∨ i = 2 ∨ i = 3 ∨ i = 4 ∨ i = 5 ∨ i = 6 ∨ i = 7 ∨ i = 8 ∨ i = 9 := by omega
  · exact run_rename [0, 1, 2, 3, 4, 31, 28, 29, 8, 9, 10, 11, 12, 13, 14, 15, 16, 17, 18, 19, 20, 21, 22, 23, 24, 25, 26, 27] rfl (by simp) (hfit_cons rfl (bfit_same (scs_rens ..)) (hfit_cons rfl (bfit_same (ers_rens ..)) (hfit_cons rfl (bfit_same (ers_rens ..)) (hfit_cons rfl (bfit_same (ers_rens ..)) (hfit_cons rfl (bfit_same (ers_rens ..)) (hfit_cons rfl (bfit_wts (fun t ht => by match t, ht with | 0, _ => rfl) (fun t ht => by match t, ht with | 0, _ => rfl) rfl rfl) (hfit_cons rfl (DE_newG (i := 0)) (hfit_cons rfl (DE_newH (i := 0)) (hfit_cons rfl (DE_keep (i := 0) (j := 2) (by decide)) (hfit_cons rfl (DE_keep (i := 0) (j := 3) (by decide)) (hfit_cons rfl (DE_keep (i := 0) (j := 4) (by decide)) (hfit_cons rfl (DE_keep (i := 0) (j := 5) (by decide)) (hfit_cons rfl (DE_keep (i := 0) (j := 6) (by decide)) (hfit_cons rfl (DE_keep (i := 0) (j := 7) (by decide)) (hfit_cons rfl (DE_keep (i := 0) (j := 8) (by decide)) (hfit_cons rfl (DE_keep (i := 0) (j := 9) (by decide)) (hfit_cons rfl (DE_keep (i := 0) (j := 10) (by decide)) (hfit_cons rfl (DE_keep (i := 0) (j := 11) (by decide)) (hfit_cons rfl (DE_keep (i := 0) (j := 12) (by decide)) (hfit_cons rfl (DE_keep (i := 0) (j := 13) (by decide)) (hfit_cons rfl (DE_keep (i := 0) (j := 14) (by decide)) (hfit_cons rfl (DE_keep (i := 0) (j := 15) (by decide)) (hfit_cons rfl (DE_keep (i := 0) (j := 16) (by decide)) (hfit_cons rfl (DE_keep (i := 0) (j := 17) (by decide)) (hfit_cons rfl (DE_keep (i := 0) (j := 18) (by decide)) (hfit_cons rfl (DE_keep (i := 0) (j := 19) (by decide)) (hfit_cons rfl (bfit_e2 rfl rfl) (hfit_cons rfl (bfit_g (by simp only [rens_append, lc_rens, rens, ren, gmap])) hfit_nil)))))))))))))))))))))))))))) (uniq_nodup (by decide +kernel)) (ht _ rfl rfl rfl (fun j hj => gmap_pre 5 [31, 28, 29, 8, 9, 10, 11, 12, 13, 14, 15, 16, 17, 18, 19, 20, 21, 22, 23, 24, 25, 26, 27] (by decide) hj)) ih
  · exact run_rename [0, 1, 2, 3, 4, 31, 6, 7, 28, 29, 10, 11, 12, 13, 14, 15, 16, 17, 18, 19, 20, 21, 22, 23, 24, 25, 26, 27] rfl (by simp) (hfit_cons rfl (bfit_same (scs_rens ..)) (hfit_cons rfl (bfit_same (ers_rens ..)) (hfit_cons rfl (bfit_same (ers_rens ..)) (hfit_cons rfl (bfit_same (ers_rens ..)) (hfit_cons rfl (bfit_same (ers_rens ..)) (hfit_cons rfl (bfit_wts (fun t ht => by match t, ht with | 0, _ | 1, _ => rfl) (fun t ht => by match t, ht with | 0, _ | 1, _ => rfl) rfl rfl) (hfit_cons rfl (DE_keep (i := 1) (j := 0) (by decide)) (hfit_cons rfl (DE_keep (i := 1) (j := 1) (by decide)) (hfit_cons rfl (DE_newG (i := 1)) (hfit_cons rfl (DE_newH (i := 1)) (hfit_cons rfl (DE_keep (i := 1) (j := 4) (by decide)) (hfit_cons rfl (DE_keep (i := 1) (j := 5) (by decide)) (hfit_cons rfl (DE_keep (i := 1) (j := 6) (by decide)) (hfit_cons rfl (DE_keep (i := 1) (j := 7) (by decide)) (hfit_cons rfl (DE_keep (i := 1) (j := 8) (by decide)) (hfit_cons rfl (DE_keep (i := 1) (j := 9) (by decide)) (hfit_cons rfl (DE_keep (i := 1) (j := 10) (by decide)) (hfit_cons rfl (DE_keep (i := 1) (j := 11) (by decide)) (hfit_cons rfl (DE_keep (i := 1) (j := 12) (by decide)) (hfit_cons rfl (DE_keep (i := 1) (j := 13) (by decide)) (hfit_cons rfl (DE_keep (i := 1) (j := 14) (by decide)) (hfit_cons rfl (DE_keep (i := 1) (j := 15) (by decide)) (hfit_cons rfl (DE_keep (i := 1) (j := 16) (by decide)) (hfit_cons rfl (DE_keep (i := 1) (j := 17) (by decide)) (hfit_cons rfl (DE_keep (i := 1) (j := 18) (by decide)) (hfit_cons rfl (DE_keep (i := 1) (j := 19) (by decide)) (hfit_cons rfl (bfit_e2 rfl rfl) (hfit_cons rfl (bfit_g (by simp only [rens_append, lc_rens, rens, ren, gmap])) hfit_nil)))))))))))))))))))))))))))) (uniq_nodup (by decide +kernel)) (ht _ rfl rfl rfl (fun j hj => gmap_pre 5 [31, 6, 7, 28, 29, 10, 11, 12, 13, 14, 15, 16, 17, 18, 19, 20, 21, 22, 23, 24, 25, 26, 27] (by decide) hj)) ih
  · exact run_rename [0, 1, 2, 3, 4, 31, 6, 7, 8, 9, 28, 29, 12, 13, 14, 15, 16, 17, 18, 19, 20, 21, 22, 23, 24, 25, 26, 27] rfl (by simp) (hfit_cons rfl (bfit_same (scs_rens ..)) (hfit_cons rfl (bfit_same (ers_rens ..)) (hfit_cons rfl (bfit_same (ers_rens ..)) (hfit_cons rfl (bfit_same (ers_rens ..)) (hfit_cons rfl (bfit_same (ers_rens ..)) (hfit_cons rfl (bfit_wts (fun t ht => by match t, ht with | 0, _ | 1, _ | 2, _ => rfl) (fun t ht => by match t, ht with | 0, _ | 1, _ | 2, _ => rfl) rfl rfl) (hfit_cons rfl (DE_keep (i := 2) (j := 0) (by decide)) (hfit_cons rfl (DE_keep (i := 2) (j := 1) (by decide)) (hfit_cons rfl (DE_keep (i := 2) (j := 2) (by decide)) (hfit_cons rfl (DE_keep (i := 2) (j := 3) (by decide)) (hfit_cons rfl (DE_newG (i := 2)) (hfit_cons rfl (DE_newH (i := 2)) (hfit_cons rfl (DE_keep (i := 2) (j := 6) (by decide)) (hfit_cons rfl (DE_keep (i := 2) (j := 7) (by decide)) (hfit_cons rfl (DE_keep (i := 2) (j := 8) (by decide)) (hfit_cons rfl (DE_keep (i := 2) (j := 9) (by decide)) (hfit_cons rfl (DE_keep (i := 2) (j := 10) (by decide)) (hfit_cons rfl (DE_keep (i := 2) (j := 11) (by decide)) (hfit_cons rfl (DE_keep (i := 2) (j := 12) (by decide)) (hfit_cons rfl (DE_keep (i := 2) (j := 13) (by decide)) (hfit_cons rfl (DE_keep (i := 2) (j := 14) (by decide)) (hfit_cons rfl (DE_keep (i := 2) (j := 15) (by decide)) (hfit_cons rfl (DE_keep (i := 2) (j := 16) (by decide)) (hfit_cons rfl (DE_keep (i := 2) (j := 17) (by decide)) (hfit_cons rfl (DE_keep (i := 2) (j := 18) (by decide)) (hfit_cons rfl (DE_keep (i := 2) (j := 19) (by decide)) (hfit_cons rfl (bfit_e2 rfl rfl) (hfit_cons rfl (bfit_g (by simp only [rens_append, lc_rens, rens, ren, gmap])) hfit_nil)))))))))))))))))))))))))))) (uniq_nodup (by decide +kernel)) (ht _ rfl rfl rfl (fun j hj => gmap_pre 5 [31, 6, 7, 8, 9, 28, 29, 12, 13, 14, 15, 16, 17, 18, 19, 20, 21, 22, 23, 24, 25, 26, 27] (by decide) hj)) ih
  · exact run_rename [0, 1, 2, 3, 4, 31, 6, 7, 8, 9, 10, 11, 28, 29, 14, 15, 16, 17, 18, 19, 20, 21, 22, 23, 24, 25, 26, 27] rfl (by simp) (hfit_cons rfl (bfit_same (scs_rens ..)) (hfit_cons rfl (bfit_same (ers_rens ..)) (hfit_cons rfl (bfit_same (ers_rens ..)) (hfit_cons rfl (bfit_same (ers_rens ..)) (hfit_cons rfl (bfit_same (ers_rens ..)) (hfit_cons rfl (bfit_wts (fun t ht => by match t, ht with | 0, _ | 1, _ | 2, _ | 3, _ => rfl) (fun t ht => by match t, ht with | 0, _ | 1, _ | 2, _ | 3, _ => rfl) rfl rfl) (hfit_cons rfl (DE_keep (i := 3) (j := 0) (by decide)) (hfit_cons rfl (DE_keep (i := 3) (j := 1) (by decide)) (hfit_cons rfl (DE_keep (i := 3) (j := 2) (by decide)) (hfit_cons rfl (DE_keep (i := 3) (j := 3) (by decide)) (hfit_cons rfl (DE_keep (i := 3) (j := 4) (by decide)) (hfit_cons rfl (DE_keep (i := 3) (j := 5) (by decide)) (hfit_cons rfl (DE_newG (i := 3)) (hfit_cons rfl (DE_newH (i := 3)) (hfit_cons rfl (DE_keep (i := 3) (j := 8) (by decide)) (hfit_cons rfl (DE_keep (i := 3) (j := 9) (by decide)) (hfit_cons rfl (DE_keep (i := 3) (j := 10) (by decide)) (hfit_cons rfl (DE_keep (i := 3) (j := 11) (by decide)) (hfit_cons rfl (DE_keep (i := 3) (j := 12) (by decide)) (hfit_cons rfl (DE_keep (i := 3) (j := 13) (by decide)) (hfit_cons rfl (DE_keep (i := 3) (j := 14) (by decide)) (hfit_cons rfl (DE_keep (i := 3) (j := 15) (by decide)) (hfit_cons rfl (DE_keep (i := 3) (j := 16) (by decide)) (hfit_cons rfl (DE_keep (i := 3) (j := 17) (by decide)) (hfit_cons rfl (DE_keep (i := 3) (j := 18) (by decide)) (hfit_cons rfl (DE_keep (i := 3) (j := 19) (by decide)) (hfit_cons rfl (bfit_e2 rfl rfl) (hfit_cons rfl (bfit_g (by simp only [rens_append, lc_rens, rens, ren, gmap])) hfit_nil)))))))))))))))))))))))))))) (uniq_nodup (by decide +kernel)) (ht _ rfl rfl rfl (fun j hj => gmap_pre 5 [31, 6, 7, 8, 9, 10, 11, 28, 29, 14, 15, 16, 17, 18, 19, 20, 21, 22, 23, 24, 25, 26, 27] (by decide) hj)) ih
  · exact run_rename [0, 1, 2, 3, 4, 31, 6, 7, 8, 9, 10, 11, 12, 13, 28, 29, 16, 17, 18, 19, 20, 21, 22, 23, 24, 25, 26, 27] rfl (by simp) (hfit_cons rfl (bfit_same (scs_rens ..)) (hfit_cons rfl (bfit_same (ers_rens ..)) (hfit_cons rfl (bfit_same (ers_rens ..)) (hfit_cons rfl (bfit_same (ers_rens ..)) (hfit_cons rfl (bfit_same (ers_rens ..)) (hfit_cons rfl (bfit_wts (fun t ht => by match t, ht with | 0, _ | 1, _ | 2, _ | 3, _ | 4, _ => rfl) (fun t ht => by match t, ht with | 0, _ | 1, _ | 2, _ | 3, _ | 4, _ => rfl) rfl rfl) (hfit_cons rfl (DE_keep (i := 4) (j := 0) (by decide)) (hfit_cons rfl (DE_keep (i := 4) (j := 1) (by decide)) (hfit_cons rfl (DE_keep (i := 4) (j := 2) (by decide)) (hfit_cons rfl (DE_keep (i := 4) (j := 3) (by decide)) (hfit_cons rfl (DE_keep (i := 4) (j := 4) (by decide)) (hfit_cons rfl (DE_keep (i := 4) (j := 5) (by decide)) (hfit_cons rfl (DE_keep (i := 4) (j := 6) (by decide)) (hfit_cons rfl (DE_keep (i := 4) (j := 7) (by decide)) (hfit_cons rfl (DE_newG (i := 4)) (hfit_cons rfl (DE_newH (i := 4)) (hfit_cons rfl (DE_keep (i := 4) (j := 10) (by decide)) (hfit_cons rfl (DE_keep (i := 4) (j := 11) (by decide)) (hfit_cons rfl (DE_keep (i := 4) (j := 12) (by decide)) (hfit_cons rfl (DE_keep (i := 4) (j := 13) (by decide)) (hfit_cons rfl (DE_keep (i := 4) (j := 14) (by decide)) (hfit_cons rfl (DE_keep (i := 4) (j := 15) (by decide)) (hfit_cons rfl (DE_keep (i := 4) (j := 16) (by decide)) (hfit_cons rfl (DE_keep (i := 4) (j := 17) (by decide)) (hfit_cons rfl (DE_keep (i := 4) (j := 18) (by decide)) (hfit_cons rfl (DE_keep (i := 4) (j := 19) (by decide)) (hfit_cons rfl (bfit_e2 rfl rfl) (hfit_cons rfl (bfit_g (by simp only [rens_append, lc_rens, rens, ren, gmap])) hfit_nil)))))))))))))))))))))))))))) (uniq_nodup (by decide +kernel)) (ht _ rfl rfl rfl (fun j hj => gmap_pre 5 [31, 6, 7, 8, 9, 10, 11, 12, 13, 28, 29, 16, 17, 18, 19, 20, 21, 22, 23, 24, 25, 26, 27] (by decide) hj)) ih
  · exact run_rename [0, 1, 2, 3, 4, 31, 6, 7, 8, 9, 10, 11, 12, 13, 14, 15, 28, 29, 18, 19, 20, 21, 22, 23, 24, 25, 26, 27] rfl (by simp) (hfit_cons rfl (bfit_same (scs_rens ..)) (hfit_cons rfl (bfit_same (ers_rens ..)) (hfit_cons rfl (bfit_same (ers_rens ..)) (hfit_cons rfl (bfit_same (ers_rens ..)) (hfit_cons rfl (bfit_same (ers_rens ..)) (hfit_cons rfl (bfit_wts (fun t ht => by match t, ht with | 0, _ | 1, _ | 2, _ | 3, _ | 4, _ | 5, _ => rfl) (fun t ht => by match t, ht with | 0, _ | 1, _ | 2, _ | 3, _ | 4, _ | 5, _ => rfl) rfl rfl) (hfit_cons rfl (DE_keep (i := 5) (j := 0) (by decide)) (hfit_cons rfl (DE_keep (i := 5) (j := 1) (by decide)) (hfit_cons rfl (DE_keep (i := 5) (j := 2) (by decide)) (hfit_cons rfl (DE_keep (i := 5) (j := 3) (by decide)) (hfit_cons rfl (DE_keep (i := 5) (j := 4) (by decide)) (hfit_cons rfl (DE_keep (i := 5) (j := 5) (by decide)) (hfit_cons rfl (DE_keep (i := 5) (j := 6) (by decide)) (hfit_cons rfl (DE_keep (i := 5) (j := 7) (by decide)) (hfit_cons rfl (DE_keep (i := 5) (j := 8) (by decide)) (hfit_cons rfl (DE_keep (i := 5) (j := 9) (by decide)) (hfit_cons rfl (DE_newG (i := 5)) (hfit_cons rfl (DE_newH (i := 5)) (hfit_cons rfl (DE_keep (i := 5) (j := 12) (by decide)) (hfit_cons rfl (DE_keep (i := 5) (j := 13) (by decide)) (hfit_cons rfl (DE_keep (i := 5) (j := 14) (by decide)) (hfit_cons rfl (DE_keep (i := 5) (j := 15) (by decide)) (hfit_cons rfl (DE_keep (i := 5) (j := 16) (by decide)) (hfit_cons rfl (DE_keep (i := 5) (j := 17) (by decide)) (hfit_cons rfl (DE_keep (i := 5) (j := 18) (by decide)) (hfit_cons rfl (DE_keep (i := 5) (j := 19) (by decide)) (hfit_cons rfl (bfit_e2 rfl rfl) (hfit_cons rfl (bfit_g (by simp only [rens_append, lc_rens, rens, ren, gmap])) hfit_nil)))))))))))))))))))))))))))) (uniq_nodup (by decide +kernel)) (ht _ rfl rfl rfl (fun j hj => gmap_pre 5 [31, 6, 7, 8, 9, 10, 11, 12, 13, 14, 15, 28, 29, 18, 19, 20, 21, 22, 23, 24, 25, 26, 27] (by decide) hj)) ih
  · exact run_rename [0, 1, 2, 3, 4, 31, 6, 7, 8, 9, 10, 11, 12, 13, 14, 15, 16, 17, 28, 29, 20, 21, 22, 23, 24, 25, 26, 27] rfl (by simp) (hfit_cons rfl (bfit_same (scs_rens ..)) (hfit_cons rfl (bfit_same (ers_rens ..)) (hfit_cons rfl (bfit_same (ers_rens ..)) (hfit_cons rfl (bfit_same (ers_rens ..)) (hfit_cons rfl (bfit_same (ers_rens ..)) (hfit_cons rfl (bfit_wts (fun t ht => by match t, ht with | 0, _ | 1, _ | 2, _ | 3, _ | 4, _ | 5, _ | 6, _ => rfl) (fun t ht => by match t, ht with | 0, _ | 1, _ | 2, _ | 3, _ | 4, _ | 5, _ | 6, _ => rfl) rfl rfl) (hfit_cons rfl (DE_keep (i := 6) (j := 0) (by decide)) (hfit_cons rfl (DE_keep (i := 6) (j := 1) (by decide)) (hfit_cons rfl (DE_keep (i := 6) (j := 2) (by decide)) (hfit_cons rfl (DE_keep (i := 6) (j := 3) (by decide)) (hfit_cons rfl (DE_keep (i := 6) (j := 4) (by decide)) (hfit_cons rfl (DE_keep (i := 6) (j := 5) (by decide)) (hfit_cons rfl (DE_keep (i := 6) (j := 6) (by decide)) (hfit_cons rfl (DE_keep (i := 6) (j := 7) (by decide)) (hfit_cons rfl (DE_keep (i := 6) (j := 8) (by decide)) (hfit_cons rfl (DE_keep (i := 6) (j := 9) (by decide)) (hfit_cons rfl (DE_keep (i := 6) (j := 10) (by decide)) (hfit_cons rfl (DE_keep (i := 6) (j := 11) (by decide)) (hfit_cons rfl (DE_newG (i := 6)) (hfit_cons rfl (DE_newH (i := 6)) (hfit_cons rfl (DE_keep (i := 6) (j := 14) (by decide)) (hfit_cons rfl (DE_keep (i := 6) (j := 15) (by decide)) (hfit_cons rfl (DE_keep (i := 6) (j := 16) (by decide)) (hfit_cons rfl (DE_keep (i := 6) (j := 17) (by decide)) (hfit_cons rfl (DE_keep (i := 6) (j := 18) (by decide)) (hfit_cons rfl (DE_keep (i := 6) (j := 19) (by decide)) (hfit_cons rfl (bfit_e2 rfl rfl) (hfit_cons rfl (bfit_g (by simp only [rens_append, lc_rens, rens, ren, gmap])) hfit_nil)))))))))))))))))))))))))))) (uniq_nodup (by decide +kernel)) (ht _ rfl rfl rfl (fun j hj => gmap_pre 5 [31, 6, 7, 8, 9, 10, 11, 12, 13, 14, 15, 16, 17, 28, 29, 20, 21, 22, 23, 24, 25, 26, 27] (by decide) hj)) ih
  · exact run_rename [0, 1, 2, 3, 4, 31, 6, 7, 8, 9, 10, 11, 12, 13, 14, 15, 16, 17, 18, 19, 28, 29, 22, 23, 24, 25, 26, 27] rfl (by simp) (hfit_cons rfl (bfit_same (scs_rens ..)) (hfit_cons rfl (bfit_same (ers_rens ..)) (hfit_cons rfl (bfit_same (ers_rens ..)) (hfit_cons rfl (bfit_same (ers_rens ..)) (hfit_cons rfl (bfit_same (ers_rens ..)) (hfit_cons rfl (bfit_wts (fun t ht => by match t, ht with | 0, _ | 1, _ | 2, _ | 3, _ | 4, _ | 5, _ | 6, _ | 7, _ => rfl) (fun t ht => by match t, ht with | 0, _ | 1, _ | 2, _ | 3, _ | 4, _ | 5, _ | 6, _ | 7, _ => rfl) rfl rfl) (hfit_cons rfl (DE_keep (i := 7) (j := 0) (by decide)) (hfit_cons rfl (DE_keep (i := 7) (j := 1) (by decide)) (hfit_cons rfl (DE_keep (i := 7) (j := 2) (by decide)) (hfit_cons rfl (DE_keep (i := 7) (j := 3) (by decide)) (hfit_cons rfl (DE_keep (i := 7) (j := 4) (by decide)) (hfit_cons rfl (DE_keep (i := 7) (j := 5) (by decide)) (hfit_cons rfl (DE_keep (i := 7) (j := 6) (by decide)) (hfit_cons rfl (DE_keep (i := 7) (j := 7) (by decide)) (hfit_cons rfl (DE_keep (i := 7) (j := 8) (by decide)) (hfit_cons rfl (DE_keep (i := 7) (j := 9) (by decide)) (hfit_cons rfl (DE_keep (i := 7) (j := 10) (by decide)) (hfit_cons rfl (DE_keep (i := 7) (j := 11) (by decide)) (hfit_cons rfl (DE_keep (i := 7) (j := 12) (by decide)) (hfit_cons rfl (DE_keep (i := 7) (j := 13) (by decide)) (hfit_cons rfl (DE_newG (i := 7)) (hfit_cons rfl (DE_newH (i := 7)) (hfit_cons rfl (DE_keep (i := 7) (j := 16) (by decide)) (hfit_cons rfl (DE_keep (i := 7) (j := 17) (by decide)) (hfit_cons rfl (DE_keep (i := 7) (j := 18) (by decide)) (hfit_cons rfl (DE_keep (i := 7) (j := 19) (by decide)) (hfit_cons rfl (bfit_e2 rfl rfl) (hfit_cons rfl (bfit_g (by simp only [rens_append, lc_rens, rens, ren, gmap])) hfit_nil)))))))))))))))))))))))))))) (uniq_nodup (by decide +kernel)) (ht _ rfl rfl rfl (fun j hj => gmap_pre 5 [31, 6, 7, 8, 9, 10, 11, 12, 13, 14, 15, 16, 17, 18, 19, 28, 29, 22, 23, 24, 25, 26, 27] (by decide) hj)) ih
  · exact run_rename [0, 1, 2, 3, 4, 31, 6, 7, 8, 9, 10, 11, 12, 13, 14, 15, 16, 17, 18, 19, 20, 21, 28, 29, 24, 25, 26, 27] rfl (by simp) (hfit_cons rfl (bfit_same (scs_rens ..)) (hfit_cons rfl (bfit_same (ers_rens ..)) (hfit_cons rfl (bfit_same (ers_rens ..)) (hfit_cons rfl (bfit_same (ers_rens ..)) (hfit_cons rfl (bfit_same (ers_rens ..)) (hfit_cons rfl (bfit_wts (fun t ht => by match t, ht with | 0, _ | 1, _ | 2, _ | 3, _ | 4, _ | 5, _ | 6, _ | 7, _ | 8, _ => rfl) (fun t ht => by match t, ht with | 0, _ | 1, _ | 2, _ | 3, _ | 4, _ | 5, _ | 6, _ | 7, _ | 8, _ => rfl) rfl rfl) (hfit_cons rfl (DE_keep (i := 8) (j := 0) (by decide)) (hfit_cons rfl (DE_keep (i := 8) (j := 1) (by decide)) (hfit_cons rfl (DE_keep (i := 8) (j := 2) (by decide)) (hfit_cons rfl (DE_keep (i := 8) (j := 3) (by decide)) (hfit_cons rfl (DE_keep (i := 8) (j := 4) (by decide)) (hfit_cons rfl (DE_keep (i := 8) (j := 5) (by decide)) (hfit_cons rfl (DE_keep (i := 8) (j := 6) (by decide)) (hfit_cons rfl (DE_keep (i := 8) (j := 7) (by decide)) (hfit_cons rfl (DE_keep (i := 8) (j := 8) (by decide)) (hfit_cons rfl (DE_keep (i := 8) (j := 9) (by decide)) (hfit_cons rfl (DE_keep (i := 8) (j := 10) (by decide)) (hfit_cons rfl (DE_keep (i := 8) (j := 11) (by decide)) (hfit_cons rfl (DE_keep (i := 8) (j := 12) (by decide)) (hfit_cons rfl (DE_keep (i := 8) (j := 13) (by decide)) (hfit_cons rfl (DE_keep (i := 8) (j := 14) (by decide)) (hfit_cons rfl (DE_keep (i := 8) (j := 15) (by decide)) (hfit_cons rfl (DE_newG (i := 8)) (hfit_cons rfl (DE_newH (i := 8)) (hfit_cons rfl (DE_keep (i := 8) (j := 18) (by decide)) (hfit_cons rfl (DE_keep (i := 8) (j := 19) (by decide)) (hfit_cons rfl (bfit_e2 rfl rfl) (hfit_cons rfl (bfit_g (by simp only [rens_append, lc_rens, rens, ren, gmap])) hfit_nil)))))))))))))))))))))))))))) (uniq_nodup (by decide +kernel)) (ht _ rfl rfl rfl (fun j hj => gmap_pre 5 [31, 6, 7, 8, 9, 10, 11, 12, 13, 14, 15, 16, 17, 18, 19, 20, 21, 28, 29, 24, 25, 26, 27] (by decide) hj)) ih
  · exact run_rename [0, 1, 2, 3, 4, 31, 6, 7, 8, 9, 10, 11, 12, 13, 14, 15, 16, 17, 18, 19, 20, 21, 22, 23, 28, 29, 26, 27] rfl (by simp) (hfit_cons rfl (bfit_same (scs_rens ..)) (hfit_cons rfl (bfit_same (ers_rens ..)) (hfit_cons rfl (bfit_same (ers_rens ..)) (hfit_cons rfl (bfit_same (ers_rens ..)) (hfit_cons rfl (bfit_same (ers_rens ..)) (hfit_cons rfl (bfit_wts (fun t ht => by match t, ht with | 0, _ | 1, _ | 2, _ | 3, _ | 4, _ | 5, _ | 6, _ | 7, _ | 8, _ | 9, _ => rfl) (fun t ht => by match t, ht with | 0, _ | 1, _ | 2, _ | 3, _ | 4, _ | 5, _ | 6, _ | 7, _ | 8, _ | 9, _ => rfl) rfl rfl) (hfit_cons rfl (DE_keep (i := 9) (j := 0) (by decide)) (hfit_cons rfl (DE_keep (i := 9) (j := 1) (by decide)) (hfit_cons rfl (DE_keep (i := 9) (j := 2) (by decide)) (hfit_cons rfl (DE_keep (i := 9) (j := 3) (by decide)) (hfit_cons rfl (DE_keep (i := 9) (j := 4) (by decide)) (hfit_cons rfl (DE_keep (i := 9) (j := 5) (by decide)) (hfit_cons rfl (DE_keep (i := 9) (j := 6) (by decide)) (hfit_cons rfl (DE_keep (i := 9) (j := 7) (by decide)) (hfit_cons rfl (DE_keep (i := 9) (j := 8) (by decide)) (hfit_cons rfl (DE_keep (i := 9) (j := 9) (by decide)) (hfit_cons rfl (DE_keep (i := 9) (j := 10) (by decide)) (hfit_cons rfl (DE_keep (i := 9) (j := 11) (by decide)) (hfit_cons rfl (DE_keep (i := 9) (j := 12) (by decide)) (hfit_cons rfl (DE_keep (i := 9) (j := 13) (by decide)) (hfit_cons rfl (DE_keep (i := 9) (j := 14) (by decide)) (hfit_cons rfl (DE_keep (i := 9) (j := 15) (by decide)) (hfit_cons rfl (DE_keep (i := 9) (j := 16) (by decide)) (hfit_cons rfl (DE_keep (i := 9) (j := 17) (by decide)) (hfit_cons rfl (DE_newG (i := 9)) (hfit_cons rfl (DE_newH (i := 9)) (hfit_cons rfl (bfit_e2 rfl rfl) (hfit_cons rfl (bfit_g (by simp only [rens_append, lc_rens, rens, ren, gmap])) hfit_nil)))))))))))))))))))))))))))) (uniq_nodup (by decide +kernel)) (ht _ rfl rfl rfl (fun j hj => gmap_pre 5 [31, 6, 7, 8, 9, 10, 11, 12, 13, 14, 15, 16, 17, 18, 19, 20, 21, 22, 23, 28, 29, 26, 27] (by decide) hj)) ih
theorem rounds_all_loop (hN : N ≤ 10) (hus : ∀ j, us j < ell) (hz : ∀ j, j < N → us j ≠ 0) (hL : ∀ j, Lf j < 115792089237316195423570985008687907853269984665640564039457584007913129639936) (hR : ∀ j, Rf j < 115792089237316195423570985008687907853269984665640564039457584007913129639936) (hg : ∀ j, g j < 115792089237316195423570985008687907853269984665640564039457584007913129639936) (hh : ∀ j, h j < 115792089237316195423570985008687907853269984665640564039457584007913129639936) (hP : P < ell) {Q : V → Heap → Prop} (hQ : ∀ c, Q (.sl 5 0 (N + 1) c) [rob us N, some ⟨.ro, ers (2 ^ N) g⟩, some ⟨.ro, ers (2 ^ N) h⟩, eb Lf N, eb Rf N, some ⟨.ro, wts us Lf Rf N P Q' pgs phs (N + 1)⟩, DE us g h N N 0, DE us g h N N 1, DE us g h N N 2, DE us g h N N 3, DE us g h N N 4, DE us g h N N 5, DE us g h N N 6, DE us g h N N 7, DE us g h N N 8, DE us g h N N 9, DE us g h N N 10, DE us g h N N 11, DE us g h N N 12, DE us g h N N 13, DE us g h N N 14, DE us g h N N 15, DE us g h N N 16, DE us g h N N 17, DE us g h N N 18, DE us g h N N 19]) :
    ∀ m i k c, i + m = N → (k = .rw ∧ c = .exact (i + 1)) ∨ (k = .grow ∧ c = .grow 54) →
    Run Tryd.prog G 19 5 Q ([.l v19_10, .b 0, .c (.seq (.reg v19_12) .ret)], ⟨rv19 N i c, rh19 us g h Lf Rf N P Q' a b i k⟩)
  | 0, i, k, c, e, hk => by
    obtain rfl : i = N := by omega
    have h0' : ((i : Int) < (i : Int)) = False := eq_false (by omega)
    have hkm : k.m = true := by rcases hk with ⟨rfl, _⟩ | ⟨rfl, _⟩ <;> rfl
    unfold rv19 rh19
    refine run_loop_eq v19_10.eq_1 ?_
    refine run_driveS 80 ?_
    simp only [go_sem, v19_5, h0']
    refine run_exit rfl ?_
    refine run_driveS 80 ?_
    simp only [go_sem, v19_12]
    refine run_ret_drop Tryd.func19 res19 [0, 1, 2, 3, 4, 5, 6, 7, 8, 9, 10, 11, 12, 13, 14, 15, 16, 17, 18, 19, 20, 21, 22, 23, 24, 25] (.sl 5 0 (i + 1) c) _ rfl (by simp) ?_ ?_ ?_ (hQ c)
    · exact hfit_cons rfl (bfit_rob) (hfit_cons rfl (bfit_same (ers_rens ..)) (hfit_cons rfl (bfit_same (ers_rens ..)) (hfit_cons rfl (bfit_eb') (hfit_cons rfl (bfit_eb') (hfit_cons rfl (bfit_same (wts_ren _ _ _ _ _ _ _ _ _ _ _ _ (fun t ht => pq_fix (fun j hj => gmap_q26 hj) (by omega)) (fun t ht => pq_fix' (fun j hj => gmap_q26 hj) (by omega))) hkm) (hfit_cons rfl (DE_fit) (hfit_cons rfl (DE_fit) (hfit_cons rfl (DE_fit) (hfit_cons rfl (DE_fit) (hfit_cons rfl (DE_fit) (hfit_cons rfl (DE_fit) (hfit_cons rfl (DE_fit) (hfit_cons rfl (DE_fit) (hfit_cons rfl (DE_fit) (hfit_cons rfl (DE_fit) (hfit_cons rfl (DE_fit) (hfit_cons rfl (DE_fit) (hfit_cons rfl (DE_fit) (hfit_cons rfl (DE_fit) (hfit_cons rfl (DE_fit) (hfit_cons rfl (DE_fit) (hfit_cons rfl (DE_fit) (hfit_cons rfl (DE_fit) (hfit_cons rfl (DE_fit) (hfit_cons rfl (DE_fit) hfit_nil)))))))))))))))))))))))))
    · exact uniq_nodup (by decide)
    · simp only [go_sem, rr19, ren, gmap]
  | m + 1, i, k, c, e, hk => by
    have ih := rounds_all_loop hN hus hz hL hR hg hh hP hQ m (i + 1) .grow (.grow 54) (by omega) (.inr ⟨rfl, rfl⟩)
    have hi9 : i ≤ 9 := by omega
    have hm2 : 2 ^ (N - i) = 2 * 2 ^ (N - (i + 1)) := by rw [← Nat.pow_succ']; congr 1; omega
    have hp : 2 ^ (N - (i + 1)) ≤ 2 ^ 10 := Nat.pow_le_pow_right (by decide) (by omega)
    have hp0 : 0 < 2 ^ (N - (i + 1)) := Nat.two_pow_pos _
    have hPl : Ps us Lf Rf P i < ell := by cases i with
      | zero => exact hP
      | succ t => exact pf1_lt ..
    have hfold := fun Q => fold_ref (G := G) (Gs us g N i) (Hs us h N i) (Gs_lt hg i) (Hs_lt hh i) (Ps us Lf Rf P i) Q' (Lf i) (Rf i) (us i) (2 ^ (N - (i + 1))) hPl (hL i) (hR i) (hus i) (by omega) hp0 (Gs us g N (i + 1)) (Hs us h N (i + 1)) (fun j _ => rfl) (fun j _ => rfl) Q
    rw [show (((Lf i * (us i * us i % ell) % ell + Ps us Lf Rf P i) % ell + Rf i * (linv (us i) * linv (us i) % ell) % ell) % ell) = Ps us Lf Rf P (i + 1) from rfl] at hfold
    have h0' : ((i : Int) < (N : Int)) = True := eq_true (by omega)
    have gU := scs_get' N us (i := i) (by omega)
    have gL := ers_get N Lf (i := i) (by omega)
    have gR := ers_get N Rf (i := i) (by omega)
    have hw : IntKind.i64.wrap ((i : Int) + 1) = ((i + 1 : Nat) : Int) := by rw [wrap_i64 (by omega) (by omega)]; omega
    have hg1 := pg_get us g h N i (by omega)
    have hg2 := ph_get us g h N i (by omega)
    have lw1 := wts_len us Lf Rf N P Q' pgs phs
    have lw2 := wts_known us Lf Rf N P Q' pgs phs
    have lw3 := wts_one us Lf Rf N P Q' pgs phs
    have lw4 := wts_take us Lf Rf N P Q' pgs phs
    have hN0 : 0 < N := by omega
    unfold rv19 rh19
    rw [rob_pos hN0, eb_pos hN0, eb_pos hN0, de_pos hN0, de_pos hN0, dv_pos hN0]
    rw [hm2] at hg1 hg2 ⊢
    have hle : ∀ (A B C D : Option Blk) (X : Heap), pgs i < (A :: some ⟨.ro, ers (2 ^ N) g⟩ :: some ⟨.ro, ers (2 ^ N) h⟩ :: B :: C :: D :: DE us g h N i 0 :: DE us g h N i 1 :: DE us g h N i 2 :: DE us g h N i 3 :: DE us g h N i 4 :: DE us g h N i 5 :: DE us g h N i 6 :: DE us g h N i 7 :: DE us g h N i 8 :: DE us g h N i 9 :: DE us g h N i 10 :: DE us g h N i 11 :: DE us g h N i 12 :: DE us g h N i 13 :: DE us g h N i 14 :: DE us g h N i 15 :: DE us g h N i 16 :: DE us g h N i 17 :: DE us g h N i 18 :: DE us g h N i 19 :: X).length := fun A B C D X => (List.getElem?_eq_some_iff.1 (hg1 A B C D X)).1
    have hle2 : ∀ (A B C D : Option Blk) (X : Heap), phs i < (A :: some ⟨.ro, ers (2 ^ N) g⟩ :: some ⟨.ro, ers (2 ^ N) h⟩ :: B :: C :: D :: DE us g h N i 0 :: DE us g h N i 1 :: DE us g h N i 2 :: DE us g h N i 3 :: DE us g h N i 4 :: DE us g h N i 5 :: DE us g h N i 6 :: DE us g h N i 7 :: DE us g h N i 8 :: DE us g h N i 9 :: DE us g h N i 10 :: DE us g h N i 11 :: DE us g h N i 12 :: DE us g h N i 13 :: DE us g h N i 14 :: DE us g h N i 15 :: DE us g h N i 16 :: DE us g h N i 17 :: DE us g h N i 18 :: DE us g h N i 19 :: X).length := fun A B C D X => (List.getElem?_eq_some_iff.1 (hg2 A B C D X)).1
    refine run_loop_eq v19_10.eq_1 ?_
    refine run_driveS 80 ?_
    simp only [go_sem, v19_5, v19_8, h0']
    refine run_drw (by kernel_rfl) ?_
    refine drun_drive 40 (p := (_, _)) ?_
    simp only [go_sem, v19_6, h0', gU, gL, gR]
    refine drun_call' ?_
    simp only [go_sem, calV]
    refine vcall_at (hfold (fun v k => v = stE (Ps us Lf Rf P (i + 1)) Q' (.sl 2 0 (2 ^ (N - (i + 1))) (.grow 26)) (.sl 3 0 (2 ^ (N - (i + 1))) (.grow 26)) ∧ k = [some ⟨.ro, ers (2 * 2 ^ (N - (i + 1))) (Gs us g N i)⟩, some ⟨.ro, ers (2 * 2 ^ (N - (i + 1))) (Hs us h N i)⟩, some ⟨.grow, ers (2 ^ (N - (i + 1))) (Gs us g N (i + 1))⟩, some ⟨.grow, ers (2 ^ (N - (i + 1))) (Hs us h N (i + 1))⟩]) ⟨rfl, rfl⟩) [pgs i, phs i] ?_ ?_ ?_ ?_ ?_
    · intro x hx
      simp only [List.mem_cons, List.mem_nil_iff, or_false] at hx
      rcases hx with rfl | rfl
      · exact hle ..
      · exact hle2 ..
    · exact hfit_cons (hg1 ..) (bfit_same (ers_rens ..)) (hfit_cons (hg2 ..) (bfit_same (ers_rens ..)) hfit_nil)
    · simp [uniq, wrB]
    · simp only [stE, ren, rens, rens_append, ecs_rens, gmap, ew_plain, lw_plain]
    rintro v h'' ⟨rfl, rfl⟩
    simp only [go_sem, stE, rens_append, ren, rens, gmap, puts, wrB, Bool.false_eq_true, if_false, if_true, renB, ers_rens, ecs_rens, Option.map_some, Option.map_none]
    refine drun_drive 40 (p := (_, _)) ?_
    simp only [go_sem, List.append_assoc]
    refine drun_end ?_
    have a1 : ((i + 1 + 1) * 496 ≤ 140737488355328) = True := eq_true (by omega)
    have a2 : (i + 1 + 1 ≤ 9223372036854775807) = True := eq_true (by omega)
    have a4 : (i + 1 ≤ i) = False := eq_false (by omega)
    rcases hk with ⟨rfl, rfl⟩ | ⟨rfl, rfl⟩
    · refine run_driveS 80 ?_
      simp only [go_sem, v19_7, v19_9, a1, a2, a4, lw1, lw2, lw3, lw4, hw]
      refine all_next us g h Lf Rf N P Q' a b hN0 i hi9 _ _ _ (fun f h5 h26 h27 hj => ?_) ih
      unfold rv19
      rw [dv_pos hN0]
      simp only [go_sem, fit, ren, h5, h26, h27, hj 0 (by decide), true_or, or_true]
    · refine run_driveS 80 ?_
      simp only [go_sem, v19_7, v19_9, a1, a2, a4, lw1, lw2, lw3, lw4, hw]
      refine all_next us g h Lf Rf N P Q' a b hN0 i hi9 _ _ _ (fun f h5 h26 h27 hj => ?_) ih
      unfold rv19
      rw [dv_pos hN0]
      simp only [go_sem, fit, ren, h5, h26, h27, hj 0 (by decide), true_or, or_true]
end
end
section
attribute [local go_sem ↓] lc_len lc_take lc_drop lc_known lc_one lc_rens lc_cells lw_known lw_agg lw_asG scs_known scs_one scs_len lc_take_add lc_drop_add lenO_dv dv_known dv_one dv_ren
attribute [local go_sem] lt_nat lt_natl lt_lnat lt_ll bool_tf bool_ft yld_known ivl_known ivl_one'
set_option maxRecDepth 100000
set_option maxHeartbeats 2000000
theorem bfit_st3 {f : Nat → Nat} {P Q i j i' j' n : Nat} {c d : Cap} (hi : f i = i') (hj : f j = j') : bfit f (some ⟨.ro, lc P ++ (lc Q ++ [.sl i 0 n c, .sl j 0 n d])⟩) (some ⟨.rw, lc P ++ (lc Q ++ [.sl i' 0 n c, .sl j' 0 n d])⟩) := ⟨.inr ⟨rfl, rfl⟩, (bfit_st2 hi hj).2⟩
theorem bfit_x3 {f : Nat → Nat} {i j i' j' n a b : Nat} (hi : f i = i') (hj : f j = j') : bfit f (some ⟨.ro, dv i n :: dv j n :: (lc a ++ lc b)⟩) (some ⟨.rw, dv i' n :: dv j' n :: (lc a ++ lc b)⟩) := ⟨.inr ⟨rfl, rfl⟩, (bfit_x (by rw [dv_ren, hi]) (by rw [dv_ren, hj])).2⟩
theorem bfit_u3 {f : Nat → Nat} {i i' n : Nat} (hi : f i = i') : bfit f (some ⟨.ro, [dv i n]⟩) (some ⟨.rw, [dv i' n]⟩) := ⟨.inr ⟨rfl, rfl⟩, (bfit_u (by rw [dv_ren, hi])).2⟩
theorem enters60 (xs : Array Value) (w : World) : (callFunc 60 xs).run Tryd.prog w = .ok (.enter 60 xs) w := by
  have h1 : Tryd.f60.name ≠ "runtime.NumGoroutine" := by have := nm60; simpa using this
  obtain ⟨c, hb, _⟩ := Option.bind_eq_some_iff.1 code60
  simp [callFunc, Tryd.func60, h1, hb]
end
section
attribute [local go_sem ↓] lc_len lc_take lc_drop lc_known lc_one lc_rens lc_cells lw_known lw_agg lw_asG scs_known scs_one scs_len
attribute [local go_sem] lt_nat lt_natl lt_lnat lt_ll bool_tf bool_ft ivl_known ivl_one'
set_option maxRecDepth 100000
set_option maxHeartbeats 1000000
theorem cut_iv (i N m : Nat) (z : Bool) (ho : Ok N m z) {h : Heap} {Q : V → Heap → Prop} (hQ : Q (ivl i (min N 2100) m z) h) : VCall Tryd.prog G 45 [ivl i N m z] h Q := by
  cases z with
  | true => exact cut_nil hQ
  | false => exact cut_sl' i N m ho.1 hQ
theorem ok_min {N m : Nat} {z : Bool} (ho : Ok N m z) : Ok (min N 2100) m z := ⟨Nat.le_trans (Nat.min_le_left ..) ho.1, fun h => by rw [ho.2 h]; rfl⟩
theorem scs_last (n : Nat) (f : Nat → Nat) (k : Nat) : ((scs n f ++ lc k).drop (n * 4)).take 4 = lc k := by
  rw [List.drop_left' (scs_len n f)]; rfl
theorem lines_stay (f : Nat → Nat) (hf : ∀ j, f j < 115792089237316195423570985008687907853269984665640564039457584007913129639936) (N m n : Nat) (z : Bool) (ho : Ok N m z) (hn : n = min N 2100) (Q : V → Heap → Prop) (hQ : Q (.bool true) [some ⟨.ro, scs n f ++ lc 77⟩, ivb f N z]) :
    VCall Tryd.prog G 23 [.sl 0 0 n (.exact (n + 1)), ivl 1 N m z] [some ⟨.ro, scs n f ++ lc 77⟩, ivb f N z] Q := by
  have ho' : Ok n m z := by rw [hn]; exact ok_min ho
  have hlen := lenO_ivl' (i := 1) ho'
  have hnN : n ≤ N := by omega
  have hnb : n ≤ 2100 := by omega
  have hfs : ∀ g, bfit g (some ⟨.ro, scs n f ++ lc 77⟩) (some ⟨.ro, scs n f ++ lc 77⟩) := fun g => bfit_same (by rw [rens_append, scs_rens, lc_rens])
  have hw1 : IntKind.i64.wrap ((n : Int) + 1) = ((n + 1 : Nat) : Int) := by rw [wrap_i64 (by omega) (by omega)]; omega
  have c1 : ((n + 1 : Nat) : Int) ≤ ((n + 1 : Nat) : Int) := Int.le_refl _
  have c2 : (0 : Int) ≤ ((n + 1 : Nat) : Int) := by omega
  have z77 : [V.int .u64 (nl 77), .int .u64 (nl 0), .int .u64 (nl 0), .int .u64 (nl 0)] = lc 77 := rfl
  refine vcall_body Tryd.func23 nm23 code23 nt23 ?_
  refine run_driveS 80 ?_
  simp only [go_sem, v23, v23_0, v23_1]
  refine run_call' rfl ?_
  simp only [go_sem, calV]
  refine cut_iv 1 N m z ho ?_
  rw [← hn]
  refine run_driveS 80 ?_
  simp only [go_sem, v23_2, v23_3, v23_10, hlen, hw1, eq_true c1, eq_true c2]
  refine run_rename [0, 1] (st' := ⟨[.sl 0 0 n (.exact (n + 1)), ivl 1 n m z, .unk, .unk, .bool false, .sl 0 0 (n + 1) (.exact (n + 1)), .int .i64 (0 : Nat)] ++ List.replicate 31 .unk, [some ⟨.ro, scs n f ++ lc 77⟩, ivb f N z]⟩) rfl (by simp) ?_ ?_ ?_ (run_for (fun i => ⟨[.sl 0 0 n (.exact (n + 1)), ivl 1 n m z, .unk, .unk, .bool false, .sl 0 0 (n + 1) (.exact (n + 1)), .int .i64 (i : Nat)] ++ List.replicate 31 .unk, [some ⟨.ro, scs n f ++ lc 77⟩, ivb f N z]⟩) n (fun i hi ih => ?_) ?_)
  · exact hfit_cons rfl (hfs _) (hfit_cons rfl bfit_ivb hfit_nil)
  · simp [uniq, wrB_ivb, wrB]
  · simp only [go_sem, hfit, lc_fit, scs_fit, fit, ren, gmap, lw_plain, true_or, or_true, ivl_ren]
  · have h0 : ((i : Int) < (n : Int)) = True := eq_true (by omega)
    have h1 : ((i : Int) < ((n + 1 : Nat) : Int)) = True := eq_true (by omega)
    have hw : IntKind.i64.wrap ((i : Int) + 1) = ((i + 1 : Nat) : Int) := by rw [wrap_i64 (by omega) (by omega)]; omega
    have g1 := scs_get n f (lc 77) (i := i) hi
    have g2 := scs_get' N f (i := i) (by omega)
    have q := lc_eqL (hf i) (hf i)
    have hq1 := ivl_pos (i := 1) ho' (by omega)
    have hq2 := ivb_pos (f := f) ho (by omega)
    rw [hq1, hq2] at ih ⊢
    refine run_loop_eq v23_9.eq_1 ?_
    refine run_driveS 80 ?_
    simp only [go_sem, v23_7, v23_4, lenO_sl, h0]
    refine run_drw (by kernel_rfl) ?_
    refine drun_drive 40 (p := (_, _)) ?_
    simp only [go_sem, v23_5, h0, h1, g1, g2, restore, Option.join_some, maskH, List.mapIdx_cons, List.mapIdx_nil, List.contains_cons, List.contains_nil, Bool.or_false, Bool.or_true, Bool.false_or, Bool.true_or, Nat.reduceBEq]
    refine drun_call' ?_
    simp only [go_sem, calV, restore, Option.join_some, maskH, List.mapIdx_cons, List.mapIdx_nil, List.contains_cons, List.contains_nil, Bool.or_false, Bool.or_true, Bool.false_or, Bool.true_or, Nat.reduceBEq]
    refine line_ _ ?_
    refine drun_drive 40 (p := (_, _)) ?_
    simp only [go_sem, q, decide_true, restore, Option.join_some, maskH, List.mapIdx_cons, List.mapIdx_nil, List.contains_cons, List.contains_nil, Bool.or_false, Bool.or_true, Bool.false_or, Bool.true_or, Nat.reduceBEq]
    refine drun_end ?_
    refine run_driveS 80 ?_
    simp only [go_sem]
    refine run_cond_f (by rfl) ?_
    refine run_driveS 80 ?_
    simp only [go_sem, v23_8, hw]
    refine run_tmps ?_ ih
    simp only [go_sem, forg, true_or, or_true]
  · have h0 : ((n : Int) < (n : Int)) = False := eq_false (by omega)
    have h1 : ((n : Int) < ((n + 1 : Nat) : Int)) = True := eq_true (by omega)
    have g1 := scs_last n f 77
    have q := lc_eqL (A := 77) (B := 77) (by decide) (by decide)
    refine run_loop_eq v23_9.eq_1 ?_
    refine run_driveS 80 ?_
    simp only [go_sem, v23_4, hlen, h0]
    refine run_exit rfl ?_
    refine run_driveS 80 ?_
    simp only [go_sem]
    refine run_drw (by kernel_rfl) ?_
    refine drun_drive 40 (p := (_, _)) ?_
    simp only [go_sem, v23_11, hlen, h1, g1, z77, restore, Option.join_some, maskH, List.mapIdx_cons, List.mapIdx_nil, List.contains_cons, List.contains_nil, Bool.or_false, Bool.or_true, Bool.false_or, Bool.true_or, Nat.reduceBEq]
    refine drun_call' ?_
    simp only [go_sem, calV, restore, Option.join_some, maskH, List.mapIdx_cons, List.mapIdx_nil, List.contains_cons, List.contains_nil, Bool.or_false, Bool.or_true, Bool.false_or, Bool.true_or, Nat.reduceBEq]
    refine line_ 77 ?_
    refine drun_drive 40 (p := (_, _)) ?_
    simp only [go_sem, q, decide_true, restore, Option.join_some, maskH, List.mapIdx_cons, List.mapIdx_nil, List.contains_cons, List.contains_nil, Bool.or_false, Bool.or_true, Bool.false_or, Bool.true_or, Nat.reduceBEq]
    refine drun_end ?_
    refine run_driveS 80 ?_
    simp only [go_sem]
    refine run_ret_drop Tryd.func23 res23 [0, 1] (.bool true) _ rfl (by simp) ?_ ?_ ?_ hQ
    · exact hfit_cons rfl (hfs _) (hfit_cons rfl bfit_ivb hfit_nil)
    · simp [uniq, wrB_ivb, wrB]
    · simp only [go_sem, rr23, ren, gmap]
end
section
attribute [local go_sem ↓] lc_len lc_take lc_drop lc_known lc_one lc_rens lc_cells lw_known lw_agg lw_asG scs_known scs_one scs_len
attribute [local go_sem] lt_nat lt_natl lt_lnat lt_ll bool_tf bool_ft
attribute [local go_sem ↓] ecs_len ecs_take ecs_drop ecs_known ecs_one ecs_rens ecs_fit ecs_cells ew_known ew_agg ew_asG ecs_kind ecs_k ecs_l ers_known ers_one ers_len ers_rens ers_fit
attribute [local go_sem ↓] ecs_take_add ecs_drop_add lc_take_add lc_drop_add lenO_de lenO_dv de_known dv_known de_one dv_one de_ren dv_ren
set_option maxRecDepth 100000
set_option maxHeartbeats 2000000
theorem rounds_all (us g h Lf Rf : Nat → Nat) (N P Q' a b : Nat) (hN : N ≤ 10) (hus : ∀ j, us j < ell) (hz : ∀ j, j < N → us j ≠ 0) (hL : ∀ j, Lf j < 115792089237316195423570985008687907853269984665640564039457584007913129639936) (hR : ∀ j, Rf j < 115792089237316195423570985008687907853269984665640564039457584007913129639936) (hg : ∀ j, g j < 115792089237316195423570985008687907853269984665640564039457584007913129639936) (hh : ∀ j, h j < 115792089237316195423570985008687907853269984665640564039457584007913129639936) (hP : P < ell) (Q : V → Heap → Prop) (hQ : ∀ c, Q (.sl 5 0 (N + 1) c) [rob us N, some ⟨.ro, ers (2 ^ N) g⟩, some ⟨.ro, ers (2 ^ N) h⟩, eb Lf N, eb Rf N, some ⟨.ro, wts us Lf Rf N P Q' pgs phs (N + 1)⟩, DE us g h N N 0, DE us g h N N 1, DE us g h N N 2, DE us g h N N 3, DE us g h N N 4, DE us g h N N 5, DE us g h N N 6, DE us g h N N 7, DE us g h N N 8, DE us g h N N 9, DE us g h N N 10, DE us g h N N 11, DE us g h N N 12, DE us g h N N 13, DE us g h N N 14, DE us g h N N 15, DE us g h N N 16, DE us g h N N 17, DE us g h N N 18, DE us g h N N 19]) :
    VCall Tryd.prog G 19 [stE P Q' (.sl 1 0 (2 ^ N) (.grow 26)) (.sl 2 0 (2 ^ N) (.grow 26)), arE (de 3 N) (de 4 N) a b, dv 0 N] [rob us N, some ⟨.ro, ers (2 ^ N) g⟩, some ⟨.ro, ers (2 ^ N) h⟩, eb Lf N, eb Rf N] Q := by
  have hp0 : 0 < 2 ^ N := Nat.two_pow_pos N
  have hfits := fun Q => fits_ref (G := G) P Q' a b (2 ^ N) (2 ^ N) N N N us (fun j => Nat.lt_trans (hus j) ell_lt) Q
  rw [de_pos hp0, de_pos hp0] at hfits
  have hf0 := hfits (fun v k => v = .int .i64 0 ∧ k = [rob us N, none, none, none, none]) (fun h => absurd ⟨rfl, hN, rfl, rfl, rfl, rfl⟩ (h N)) (fun k f ⟨j, hj, e⟩ => by
      have : k = N := f.2.2.2.1.symm
      subst this
      exact absurd e (hz j hj)) (fun k f h => ⟨rfl, rfl⟩)
  have next := rounds_all_loop (G := G) us g h Lf Rf N P Q' a b hN hus hz hL hR hg hh hP hQ N 0 .rw (.exact 1) (by omega) (.inl ⟨rfl, rfl⟩)
  unfold rh19 at next
  simp only [DE_none] at next
  refine vcall_body Tryd.func19 nm19 code19 nt19 ?_
  unfold stE arE
  refine run_driveS 80 ?_
  simp only [go_sem, v19, v19_0, v19_1]
  refine run_call' rfl ?_
  simp only [go_sem, calV]
  refine vcall_at hf0 [0, 1, 2, 3, 4] (by simp) ?_ ?_ ?_ ?_
  · exact hfit_cons rfl bfit_rob (hfit_cons_none (hfit_cons_none (hfit_cons_none (hfit_cons_none hfit_nil))))
  · simp [uniq, wrB_rob, wrB_none]
  · simp only [stE_ren, arE_ren, ren, rens, gmap, de_ren, dv_ren, stE, arE, rens_append, ecs_rens, lc_rens]
  rintro v h'' ⟨rfl, rfl⟩
  rw [puts_ro (by simp [wrB_rob, wrB_none]) rfl (by simp)]
  simp only [List.drop_succ_cons, List.drop_zero, List.length_cons, List.length_nil, List.map_nil, List.append_nil, Nat.reduceAdd, ren]
  refine run_driveS 80 ?_
  simp only [go_sem]
  refine run_cond_f (by rfl) ?_
  refine run_driveS 80 ?_
  simp only [go_sem, v19_3, v19_4, v19_11]
  refine run_rename [0, 1, 2, 3, 4, 7, 100, 101, 102, 103, 104, 105, 106, 107, 108, 109, 110, 111, 112, 113, 114, 115, 116, 117, 118, 119, 5, 6] rfl (by simp) ?_ ?_ ?_ next
  · exact hfit_cons rfl (bfit_rob) (hfit_cons rfl (bfit_same (ers_rens ..)) (hfit_cons rfl (bfit_same (ers_rens ..)) (hfit_cons rfl (bfit_eb') (hfit_cons rfl (bfit_eb') (hfit_cons rfl (bfit_wts (n := 0) (fun t ht => absurd ht (Nat.not_lt_zero t)) (fun t ht => absurd ht (Nat.not_lt_zero t)) rfl rfl) (hfit_cons_none (hfit_cons_none (hfit_cons_none (hfit_cons_none (hfit_cons_none (hfit_cons_none (hfit_cons_none (hfit_cons_none (hfit_cons_none (hfit_cons_none (hfit_cons_none (hfit_cons_none (hfit_cons_none (hfit_cons_none (hfit_cons_none (hfit_cons_none (hfit_cons_none (hfit_cons_none (hfit_cons_none (hfit_cons_none (hfit_cons rfl (bfit_e2 rfl rfl) (hfit_cons rfl (bfit_g (by simp only [rens_append, lc_rens, rens, de_ren, gmap])) hfit_nil)))))))))))))))))))))))))))
  · exact uniq_nodup (by decide +kernel)
  · unfold rv19
    simp only [go_sem, hfit, lc_fit, scs_fit, fit, ren, gmap, lw_plain, true_or, or_true]
theorem rounds_none (P Q' a b nG nH nL nR nU : Nat) (us : Nat → Nat) (hus : ∀ j, us j < ell) (hbad : (∀ k, ¬ Fit nG nH nL nR nU k) ∨ ∃ j, j < nU ∧ us j = 0) (Q : V → Heap → Prop) (hQ : Q .nils [rob us nU, none, none, none, none]) :
    VCall Tryd.prog G 19 [stE P Q' (de 1 nG) (de 2 nH), arE (de 3 nL) (de 4 nR) a b, dv 0 nU] [rob us nU, none, none, none, none] Q := by
  have hf0 := fits_ref (G := G) P Q' a b nG nH nL nR nU us (fun j => Nat.lt_trans (hus j) ell_lt) (fun v k => (∃ e : Int, e ≠ 0 ∧ v = .int .i64 e) ∧ k = [rob us nU, none, none, none, none]) (fun _ => ⟨⟨2, by decide, rfl⟩, rfl⟩) (fun _ _ _ => ⟨⟨4, by decide, rfl⟩, rfl⟩) (fun k hk hz => by
    rcases hbad with e | ⟨j, hj, e⟩
    · exact absurd hk (e k)
    · exact absurd e (hz j (by rw [← hk.2.2.2.2.2]; exact hj)))
  refine vcall_body Tryd.func19 nm19 code19 nt19 ?_
  unfold stE arE
  refine run_driveS 80 ?_
  simp only [go_sem, v19, v19_0, v19_1]
  refine run_call' rfl ?_
  simp only [go_sem, calV]
  refine vcall_at hf0 [0, 1, 2, 3, 4] (by simp) ?_ ?_ ?_ ?_
  · exact hfit_cons rfl bfit_rob (hfit_cons_none (hfit_cons_none (hfit_cons_none (hfit_cons_none hfit_nil))))
  · simp [uniq, wrB_rob, wrB_none]
  · simp only [stE_ren, arE_ren, ren, rens, gmap, de_ren, dv_ren, stE, arE, rens_append, ecs_rens, lc_rens]
  rintro v k ⟨⟨e, he, rfl⟩, rfl⟩
  rw [puts_ro (by simp [wrB_rob, wrB_none]) rfl (by simp)]
  simp only [List.drop_succ_cons, List.drop_zero, List.length_cons, List.length_nil, List.map_nil, List.append_nil, Nat.reduceAdd, ren]
  have hne : (e == 0) = false := by simpa using he
  refine run_driveS 80 ?_
  simp only [go_sem, hne]
  refine run_cond_t (by rfl) ?_
  refine run_driveS 80 ?_
  simp only [go_sem, v19_2]
  refine run_ret_drop Tryd.func19 res19 [0, 1, 2, 3, 4] .nils _ rfl (by simp) ?_ ?_ ?_ hQ
  · exact hfit_cons rfl bfit_rob (hfit_cons_none (hfit_cons_none (hfit_cons_none (hfit_cons_none hfit_nil))))
  · simp [uniq, wrB_rob, wrB_none]
  · simp only [go_sem, rr19, ren, gmap]
end
section
attribute [local go_sem ↓] lc_len lc_take lc_drop lc_known lc_one lc_rens lc_cells lw_known lw_agg lw_asG scs_known scs_one scs_len lc_take_add lc_drop_add lenO_dv dv_known dv_one dv_ren
attribute [local go_sem] lt_nat lt_natl lt_lnat lt_ll bool_tf bool_ft
set_option maxRecDepth 100000
set_option maxHeartbeats 2000000
attribute [local go_sem] yld_known
theorem gmap_e14 {L j : Nat} (hj : j < 36) : gmap [0, 1, 2, 3, 4, 5, 6, 7, 8, 9, 10, 11, 12, 13, 14, 15, 16, 17, 18, 19, 20, 21, 22, 23, 24, 25, 26, 27, 28, 29, 30, 31, 32, 33, 34, 35, 42, 43] L j = j := gmap_pre 36 [42, 43] (by decide) hj
theorem gmap_e17 {L j : Nat} (hj : j < 36) : gmap [0, 1, 2, 3, 4, 5, 6, 7, 8, 9, 10, 11, 12, 13, 14, 15, 16, 17, 18, 19, 20, 21, 22, 23, 24, 25, 26, 27, 28, 29, 30, 31, 32, 33, 34, 35, 36, 44, 45, 42, 43] L j = j := gmap_pre 36 [36, 44, 45, 42, 43] (by decide) hj
theorem gmap_e17' {L j : Nat} (hj : j < 36) : gmap [0, 1, 2, 3, 4, 5, 6, 7, 8, 9, 10, 11, 12, 13, 14, 15, 16, 17, 18, 19, 20, 21, 22, 23, 24, 25, 26, 27, 28, 29, 30, 31, 32, 33, 34, 35, 36, 37, 38, 39, 40] L j = j := gmap_pre 36 [36, 37, 38, 39, 40] (by decide) hj
theorem gmap_e12 {L j : Nat} (hj : j < 36) : gmap [0, 1, 2, 3, 4, 5, 6, 7, 8, 9, 10, 11, 12, 13, 14, 15, 16, 17, 18, 19, 20, 21, 22, 23, 24, 25, 26, 27, 28, 29, 30, 31, 32, 33, 34, 35] L j = j := gmap_pre 36 [] (by decide) hj
theorem trimE {f : FuncId} {md : Md} {Q : V → Heap → Prop} {k : List TI} {tm : List V} {b0 b1 b2 b3 b4 b5 b6 b7 b8 b9 b10 b11 b12 b13 b14 b15 b16 b17 b18 b19 b20 b21 b22 b23 b24 b25 b26 b27 b28 b29 b30 b31 b32 b33 b34 b35 b36 b37 b38 b39 b40 b41 : Option Blk} {X : Heap} (hu : uniq [0, 1, 2, 3, 4, 5, 6, 7, 8, 9, 10, 11, 12, 13, 14, 15, 16, 17, 18, 19, 20, 21, 22, 23, 24, 25, 26, 27, 28, 29, 30, 31, 32, 33, 34, 35, 36, 37, 38, 39, 40, 41, 42, 43] [b0, b1, b2, b3, b4, b5, b6, b7, b8, b9, b10, b11, b12, b13, b14, b15, b16, b17, b18, b19, b20, b21, b22, b23, b24, b25, b26, b27, b28, b29, b30, b31, b32, b33, b34, b35, b36, b37, b38, b39, b40, b41, none, none])
    (h : RunM Tryd.prog G f 36 md Q (k, ⟨tm, [b0, b1, b2, b3, b4, b5, b6, b7, b8, b9, b10, b11, b12, b13, b14, b15, b16, b17, b18, b19, b20, b21, b22, b23, b24, b25, b26, b27, b28, b29, b30, b31, b32, b33, b34, b35, b36, b37, b38, b39, b40, b41, none, none]⟩))
    (hf : ∀ g : Nat → Nat, (∀ j, j < 44 → g j = j) → fit g tm tm ∧ bfit g b0 b0 ∧ bfit g b1 b1 ∧ bfit g b2 b2 ∧ bfit g b3 b3 ∧ bfit g b4 b4 ∧ bfit g b5 b5 ∧ bfit g b6 b6 ∧ bfit g b7 b7 ∧ bfit g b8 b8 ∧ bfit g b9 b9 ∧ bfit g b10 b10 ∧ bfit g b11 b11 ∧ bfit g b12 b12 ∧ bfit g b13 b13 ∧ bfit g b14 b14 ∧ bfit g b15 b15 ∧ bfit g b16 b16 ∧ bfit g b17 b17 ∧ bfit g b18 b18 ∧ bfit g b19 b19 ∧ bfit g b20 b20 ∧ bfit g b21 b21 ∧ bfit g b22 b22 ∧ bfit g b23 b23 ∧ bfit g b24 b24 ∧ bfit g b25 b25 ∧ bfit g b26 b26 ∧ bfit g b27 b27 ∧ bfit g b28 b28 ∧ bfit g b29 b29 ∧ bfit g b30 b30 ∧ bfit g b31 b31 ∧ bfit g b32 b32 ∧ bfit g b33 b33 ∧ bfit g b34 b34 ∧ bfit g b35 b35 ∧ bfit g b36 b36 ∧ bfit g b37 b37 ∧ bfit g b38 b38 ∧ bfit g b39 b39 ∧ bfit g b40 b40 ∧ bfit g b41 b41) :
    RunM Tryd.prog G f 36 md Q (k, ⟨tm, b0 :: b1 :: b2 :: b3 :: b4 :: b5 :: b6 :: b7 :: b8 :: b9 :: b10 :: b11 :: b12 :: b13 :: b14 :: b15 :: b16 :: b17 :: b18 :: b19 :: b20 :: b21 :: b22 :: b23 :: b24 :: b25 :: b26 :: b27 :: b28 :: b29 :: b30 :: b31 :: b32 :: b33 :: b34 :: b35 :: b36 :: b37 :: b38 :: b39 :: b40 :: b41 :: X⟩) := by
  obtain ⟨ht, f0, f1, f2, f3, f4, f5, f6, f7, f8, f9, f10, f11, f12, f13, f14, f15, f16, f17, f18, f19, f20, f21, f22, f23, f24, f25, f26, f27, f28, f29, f30, f31, f32, f33, f34, f35, f36, f37, f38, f39, f40, f41⟩ := hf (gmap [0, 1, 2, 3, 4, 5, 6, 7, 8, 9, 10, 11, 12, 13, 14, 15, 16, 17, 18, 19, 20, 21, 22, 23, 24, 25, 26, 27, 28, 29, 30, 31, 32, 33, 34, 35, 36, 37, 38, 39, 40, 41, 42, 43] (b0 :: b1 :: b2 :: b3 :: b4 :: b5 :: b6 :: b7 :: b8 :: b9 :: b10 :: b11 :: b12 :: b13 :: b14 :: b15 :: b16 :: b17 :: b18 :: b19 :: b20 :: b21 :: b22 :: b23 :: b24 :: b25 :: b26 :: b27 :: b28 :: b29 :: b30 :: b31 :: b32 :: b33 :: b34 :: b35 :: b36 :: b37 :: b38 :: b39 :: b40 :: b41 :: X).length) (fun j hj => gmap_lt (by
    have : ([0, 1, 2, 3, 4, 5, 6, 7, 8, 9, 10, 11, 12, 13, 14, 15, 16, 17, 18, 19, 20, 21, 22, 23, 24, 25, 26, 27, 28, 29, 30, 31, 32, 33, 34, 35, 36, 37, 38, 39, 40, 41, 42, 43] : List Nat) = List.range 44 := by decide
    rw [this, List.getElem?_range hj]))
  exact run_rename [0, 1, 2, 3, 4, 5, 6, 7, 8, 9, 10, 11, 12, 13, 14, 15, 16, 17, 18, 19, 20, 21, 22, 23, 24, 25, 26, 27, 28, 29, 30, 31, 32, 33, 34, 35, 36, 37, 38, 39, 40, 41, 42, 43] rfl (by simp) (hfit_cons rfl f0 (hfit_cons rfl f1 (hfit_cons rfl f2 (hfit_cons rfl f3 (hfit_cons rfl f4 (hfit_cons rfl f5 (hfit_cons rfl f6 (hfit_cons rfl f7 (hfit_cons rfl f8 (hfit_cons rfl f9 (hfit_cons rfl f10 (hfit_cons rfl f11 (hfit_cons rfl f12 (hfit_cons rfl f13 (hfit_cons rfl f14 (hfit_cons rfl f15 (hfit_cons rfl f16 (hfit_cons rfl f17 (hfit_cons rfl f18 (hfit_cons rfl f19 (hfit_cons rfl f20 (hfit_cons rfl f21 (hfit_cons rfl f22 (hfit_cons rfl f23 (hfit_cons rfl f24 (hfit_cons rfl f25 (hfit_cons rfl f26 (hfit_cons rfl f27 (hfit_cons rfl f28 (hfit_cons rfl f29 (hfit_cons rfl f30 (hfit_cons rfl f31 (hfit_cons rfl f32 (hfit_cons rfl f33 (hfit_cons rfl f34 (hfit_cons rfl f35 (hfit_cons rfl f36 (hfit_cons rfl f37 (hfit_cons rfl f38 (hfit_cons rfl f39 (hfit_cons rfl f40 (hfit_cons rfl f41 (hfit_cons_none (hfit_cons_none hfit_nil)))))))))))))))))))))))))))))))))))))))))))) hu ht h
theorem uniqE {h' : Heap} (hl : h'.length = 44) : uniq [0, 1, 2, 3, 4, 5, 6, 7, 8, 9, 10, 11, 12, 13, 14, 15, 16, 17, 18, 19, 20, 21, 22, 23, 24, 25, 26, 27, 28, 29, 30, 31, 32, 33, 34, 35, 36, 37, 38, 39, 40, 41, 42, 43] h' := by
  have e : ([0, 1, 2, 3, 4, 5, 6, 7, 8, 9, 10, 11, 12, 13, 14, 15, 16, 17, 18, 19, 20, 21, 22, 23, 24, 25, 26, 27, 28, 29, 30, 31, 32, 33, 34, 35, 36, 37, 38, 39, 40, 41, 42, 43] : List Nat) = List.range 44 := by decide
  unfold uniq
  rw [e]
  refine List.pairwise_iff_getElem.2 fun i j hi hj hij _ => ?_
  simp only [List.getElem_zip, List.getElem_range]
  omega
section
variable (us g h Lf Rf : Nat → Nat) (N P Q' a b : Nat) (r : Loop) (tm : List V) (A : Nat → Nat → Nat → Option Blk) (B C E : Nat → Option Blk)
def tm60e (t : Nat) : List V := [.yld 8, .ptr 0 0, .ptr 1 0, .ptr 2 0, .unk, .ptr 36 0, .int .i64 t] ++ List.replicate 44 .unk
noncomputable def hd0e (t : Nat) (c d : Cap) : Heap := [bS N P Q', bX N a b, bU N, some ⟨.ro, scs (2 ^ (N - t)) (Gs us g N t)⟩, some ⟨.ro, scs (2 ^ (N - t)) (Hs us h N t)⟩, rob Lf N, rob Rf N, rob us N, some ⟨.loop r, tm⟩, A t 39 40, B t, C t, E 0, E 1, E 2, E 3, E 4, E 5, E 6, E 7, E 8, E 9, E 10, E 11, E 12, E 13, E 14, E 15, E 16, E 17, E 18, E 19, E 20, E 21, E 22, E 23,
  some ⟨.rw, lc (Ps us Lf Rf P t) ++ (lc Q' ++ [.sl 3 0 (2 ^ (N - t)) c, .sl 4 0 (2 ^ (N - t)) d])⟩, none, none, none, none]
noncomputable def hd1e (t : Nat) (c d : Cap) : Heap := [bS N P Q', bX N a b, bU N, some ⟨.ro, scs (2 ^ N) g⟩, some ⟨.ro, scs (2 ^ N) h⟩, rob Lf N, rob Rf N, rob us N, some ⟨.loop r, tm⟩, A t 39 40, B t, C t, E 0, E 1, E 2, E 3, E 4, E 5, E 6, E 7, E 8, E 9, E 10, E 11, E 12, E 13, E 14, E 15, E 16, E 17, E 18, E 19, E 20, E 21, E 22, E 23,
  some ⟨.rw, lc (Ps us Lf Rf P t) ++ (lc Q' ++ [.sl 37 0 (2 ^ (N - t)) c, .sl 38 0 (2 ^ (N - t)) d])⟩, some ⟨.ro, scs (2 ^ (N - t)) (Gs us g N t)⟩, some ⟨.ro, scs (2 ^ (N - t)) (Hs us h N t)⟩, none, none]
theorem stepE0 (hG : G 0 = tbl) (hN : N ≤ 10) (hus : ∀ j, us j < 115792089237316195423570985008687907853269984665640564039457584007913129639936) (hz : ∀ j, j < N → us j % ell ≠ 0) (hg : ∀ j, g j < 115792089237316195423570985008687907853269984665640564039457584007913129639936) (hh : ∀ j, h j < 115792089237316195423570985008687907853269984665640564039457584007913129639936) (hL : ∀ j, Lf j < 115792089237316195423570985008687907853269984665640564039457584007913129639936) (hR : ∀ j, Rf j < 115792089237316195423570985008687907853269984665640564039457584007913129639936) (hP : P < 115792089237316195423570985008687907853269984665640564039457584007913129639936) (hQ' : Q' < 115792089237316195423570985008687907853269984665640564039457584007913129639936) (htm : ∀ f : Nat → Nat, (∀ j, j < 36 → f j = j) → fit f tm tm)
    (hA : ∀ f t i j, bfit f (A t i j) (A t (f i) (f j))) (hB : ∀ f t, bfit f (B t) (B t)) (hC : ∀ f t, bfit f (C t) (C t)) (hA0 : ∀ i j, A 0 i j = A 0 0 0) (hE : ∀ (i : Nat) (f : Nat → Nat), (∀ j, j < 36 → f j = j) → bfit f (E i) (E i))
    (Q : V → Heap → Prop) (Fs : Loop → Option Blk → Option Blk → Option Blk → Prop) (Inn : Nat → Prop)
    (hY : ∀ t, t ≤ N → Inn t → ∀ B0 B1 B2 B3 B4 B5 B6 B7 B12 B13 B14 B17, YCall Tryd.prog G 8 [stL (Ps us Lf Rf P t) Q' (.sl 42 0 (2 ^ (N - t)) (.grow 4)) (.sl 43 0 (2 ^ (N - t)) (.grow 4))]
      [B0, B1, B2, B3, B4, B5, B6, B7, some ⟨.loop r, tm⟩, A t 39 40, B t, C t, E 0, E 1, E 2, E 3, E 4, E 5, E 6, E 7, E 8, E 9, E 10, E 11, E 12, E 13, E 14, E 15, E 16, E 17, E 18, E 19, E 20, E 21, E 22, E 23, B12, B13, B14, none, none, B17, some ⟨.grow, scs (2 ^ (N - t)) (Gs us g N t)⟩, some ⟨.grow, scs (2 ^ (N - t)) (Hs us h N t)⟩]
      fun v h' => (v = .bool true ∧ Inn (t + 1) ∧ ∃ X, h' = B0 :: B1 :: B2 :: B3 :: B4 :: B5 :: B6 :: B7 :: some ⟨.loop r, tm⟩ :: A (t + 1) 42 43 :: B (t + 1) :: C (t + 1) :: E 0 :: E 1 :: E 2 :: E 3 :: E 4 :: E 5 :: E 6 :: E 7 :: E 8 :: E 9 :: E 10 :: E 11 :: E 12 :: E 13 :: E 14 :: E 15 :: E 16 :: E 17 :: E 18 :: E 19 :: E 20 :: E 21 :: E 22 :: E 23 :: B12 :: B13 :: B14 :: none :: none :: B17 :: X) ∨
        (v = .bool false ∧ ∃ r' A' B' C' X, h' = B0 :: B1 :: B2 :: B3 :: B4 :: B5 :: B6 :: B7 :: some ⟨.loop r', tm⟩ :: A' :: B' :: C' :: E 0 :: E 1 :: E 2 :: E 3 :: E 4 :: E 5 :: E 6 :: E 7 :: E 8 :: E 9 :: E 10 :: E 11 :: E 12 :: E 13 :: E 14 :: E 15 :: E 16 :: E 17 :: E 18 :: E 19 :: E 20 :: E 21 :: E 22 :: E 23 :: X ∧ (∀ f, bfit f A' A') ∧ (∀ f, bfit f B' B') ∧ (∀ f, bfit f C' C') ∧ Fs r' A' B' C'))
    (hQ1 : Inn (N + 1) → Q (.tup []) [bS N P Q', bX N a b, bU N, some ⟨.ro, scs (2 ^ N) g⟩, some ⟨.ro, scs (2 ^ N) h⟩, rob Lf N, rob Rf N, rob us N, some ⟨.loop r, tm⟩, A (N + 1) 36 37, B (N + 1), C (N + 1), E 0, E 1, E 2, E 3, E 4, E 5, E 6, E 7, E 8, E 9, E 10, E 11, E 12, E 13, E 14, E 15, E 16, E 17, E 18, E 19, E 20, E 21, E 22, E 23, none, none])
    (hQ2 : ∀ r' A' B' C', Fs r' A' B' C' → Q (.tup []) [bS N P Q', bX N a b, bU N, some ⟨.ro, scs (2 ^ N) g⟩, some ⟨.ro, scs (2 ^ N) h⟩, rob Lf N, rob Rf N, rob us N, some ⟨.loop r', tm⟩, A', B', C', E 0, E 1, E 2, E 3, E 4, E 5, E 6, E 7, E 8, E 9, E 10, E 11, E 12, E 13, E 14, E 15, E 16, E 17, E 18, E 19, E 20, E 21, E 22, E 23])
    (t : Nat) (c d : Cap) (ht : t ≤ N) (hIt : Inn t) (hc : CapOk c (2 ^ (N - t))) (hd : CapOk d (2 ^ (N - t))) (g0 : some (⟨.ro, scs (2 ^ (N - t)) (Gs us g N t)⟩ : Blk) = some ⟨.ro, scs (2 ^ N) g⟩ ∨ 03 = 13) (h0 : some (⟨.ro, scs (2 ^ (N - t)) (Hs us h N t)⟩ : Blk) = some ⟨.ro, scs (2 ^ N) h⟩ ∨ 03 = 13)
    (next : t < N → Inn (t + 1) → RunM Tryd.prog G 60 36 {} Q ([TI.l v60_9, TI.b 0], ⟨tm60e (t + 1), hd1e us g h Lf Rf N P Q' a b r tm A B C E (t + 1) (.exact (2 ^ (N - (t + 1)))) (.exact (2 ^ (N - (t + 1))))⟩)) :
    RunM Tryd.prog G 60 36 {} Q ([TI.l v60_9, TI.b 0], ⟨tm60e t, hd0e us g h Lf Rf N P Q' a b r tm A B C E t c d⟩) := by
  have hp : 2 ^ N ≤ 2 ^ 10 := Nat.pow_le_pow_right (by decide) hN
  have hp0 : 0 < 2 ^ N := Nat.two_pow_pos N
  have hft : ∀ f, (∀ j, j < 36 → f j = j) → bfit f (bS N P Q') (bS N P Q') := fun f hf => by
    unfold bS
    exact bfit_same (by simp only [rens_append, lc_rens, rens, ren, hf 3 (by decide), hf 4 (by decide)])
  have hft2 : ∀ f, (∀ j, j < 36 → f j = j) → bfit f (bX N a b) (bX N a b) := fun f hf => by
    unfold bX
    exact bfit_same (by simp only [rens_append, lc_rens, rens, dv_ren, hf 5 (by decide), hf 6 (by decide)])
  have hft3 : ∀ f, (∀ j, j < 36 → f j = j) → bfit f (bU N) (bU N) := fun f hf => by
    unfold bU
    exact bfit_same (by simp only [rens, dv_ren, hf 7 (by decide)])
  have hlp : ∀ f : Nat → Nat, (∀ j, j < 36 → f j = j) → bfit f (some ⟨.loop r, tm⟩) (some ⟨.loop r, tm⟩) := fun f hf => ⟨.inl rfl, htm f hf⟩
  unfold tm60e hd0e bS bX bU
  refine run_loop_eq v60_9.eq_1 ?_
  refine run_driveS 80 ?_
  simp only [go_sem, v60_7, v60_3]
  have hn := Nat.two_pow_pos (N - t)
  have hn9 : 2 ^ (N - t) ≤ 2 ^ N := Nat.pow_le_pow_right (by decide) (by omega)
  have e0 : (2 ^ (N - t) = 0) = False := eq_false (by omega)
  have e1 : (2 ^ (N - t) * 32 ≤ 281474976710656) = True := eq_true (by omega)
  have e2 : (2 ^ (N - t) ≤ 9223372036854775807) = True := eq_true (by omega)
  refine run_drw (by kernel_rfl) ?_
  refine drun_drive 40 (p := (_, _)) ?_
  simp only [go_sem, v60_4, e0, e1, e2, scs_tk, look_ro, restore, Option.join_some, maskH, List.mapIdx_cons, List.mapIdx_nil, List.contains_cons, List.contains_nil, Bool.or_false, Bool.or_true, Bool.false_or, Bool.true_or, Nat.reduceBEq]
  rw [st_t9, st_d10, st_ap]
  refine drun_end ?_
  refine run_driveS 80 ?_
  simp only [go_sem, v60_5]
  refine run_yield' 8 rfl rfl ⟨.loop r, tm⟩ rfl rfl (YCall.mono (hY t ht hIt _ _ _ _ _ _ _ _ _ _ _ _) ?_)
  rintro v h' (⟨rfl, hI, X, rfl⟩ | ⟨rfl, r', A', B', C', X, rfl, fA, fB, fC, hF⟩)
  · refine trimE (uniqE rfl) ?_ ?_
    rotate_left
    · intro f hf
      refine ⟨by simp only [go_sem, fit, ren, hf 0, hf 1, hf 2, hf 3, hf 4, hf 8, hf 36, hf 37, hf 38, hf 41, hf 42, hf 43, rens_append, lc_rens, rens, true_or, or_true], ?_⟩
      refine ⟨hft f fun j hj => hf j (by omega), hft2 f fun j hj => hf j (by omega), hft3 f fun j hj => hf j (by omega), ?_⟩
      have hA1 := hA f (t + 1) 42 43
      rw [hf 42 (by decide), hf 43 (by decide)] at hA1
      exact ⟨bfit_same (scs_rens ..), bfit_same (scs_rens ..), bfit_rob, bfit_rob, bfit_rob, hlp f (fun j hj => hf j (by omega)), hA1, hB f _, hC f _, hE 0 f fun j hj => hf j (by omega), hE 1 f fun j hj => hf j (by omega), hE 2 f fun j hj => hf j (by omega), hE 3 f fun j hj => hf j (by omega), hE 4 f fun j hj => hf j (by omega), hE 5 f fun j hj => hf j (by omega), hE 6 f fun j hj => hf j (by omega), hE 7 f fun j hj => hf j (by omega), hE 8 f fun j hj => hf j (by omega), hE 9 f fun j hj => hf j (by omega), hE 10 f fun j hj => hf j (by omega), hE 11 f fun j hj => hf j (by omega), hE 12 f fun j hj => hf j (by omega), hE 13 f fun j hj => hf j (by omega), hE 14 f fun j hj => hf j (by omega), hE 15 f fun j hj => hf j (by omega), hE 16 f fun j hj => hf j (by omega), hE 17 f fun j hj => hf j (by omega), hE 18 f fun j hj => hf j (by omega), hE 19 f fun j hj => hf j (by omega), hE 20 f fun j hj => hf j (by omega), hE 21 f fun j hj => hf j (by omega), hE 22 f fun j hj => hf j (by omega), hE 23 f fun j hj => hf j (by omega), bfit_st (hf _ (by decide)) (hf _ (by decide)), by first | trivial | exact bfit_same (scs_rens ..), by first | trivial | exact bfit_same (scs_rens ..), trivial, trivial, bfit_st (hf _ (by decide)) (hf _ (by decide))⟩
    by_cases hN' : t = N
    · subst hN'
      refine run_driveS 80 ?_
      simp only [go_sem, lenO_dv, eq_int, decide_true]
      refine run_cond_t (by rfl) ?_
      refine run_ret_drop Tryd.func60 res60 [0, 1, 2, 3, 4, 5, 6, 7, 8, 9, 10, 11, 12, 13, 14, 15, 16, 17, 18, 19, 20, 21, 22, 23, 24, 25, 26, 27, 28, 29, 30, 31, 32, 33, 34, 35, 42, 43] (.tup []) _ rfl (by simp) ?_ ?_ ?_ (hQ1 hI)
      · refine hfit_cons rfl ?_ (hfit_cons rfl ?_ (hfit_cons rfl ?_ (hfit_cons rfl ?_ (hfit_cons rfl ?_ (hfit_cons rfl ?_ (hfit_cons rfl ?_ (hfit_cons rfl ?_ (hfit_cons rfl ?_ (hfit_cons rfl ?_ (hfit_cons rfl ?_ (hfit_cons rfl ?_ (hfit_cons rfl ?_ (hfit_cons rfl ?_ (hfit_cons rfl ?_ (hfit_cons rfl ?_ (hfit_cons rfl ?_ (hfit_cons rfl ?_ (hfit_cons rfl ?_ (hfit_cons rfl ?_ (hfit_cons rfl ?_ (hfit_cons rfl ?_ (hfit_cons rfl ?_ (hfit_cons rfl ?_ (hfit_cons rfl ?_ (hfit_cons rfl ?_ (hfit_cons rfl ?_ (hfit_cons rfl ?_ (hfit_cons rfl ?_ (hfit_cons rfl ?_ (hfit_cons rfl ?_ (hfit_cons rfl ?_ (hfit_cons rfl ?_ (hfit_cons rfl ?_ (hfit_cons rfl ?_ (hfit_cons rfl ?_ (hfit_cons rfl ?_ (hfit_cons rfl ?_ hfit_nil)))))))))))))))))))))))))))))))))))))
        all_goals first | trivial | exact hft _ (fun j hj => gmap_e14 hj) | exact hft2 _ (fun j hj => gmap_e14 hj) | exact hft3 _ (fun j hj => gmap_e14 hj) | exact bfit_rob | exact hlp _ (fun j hj => gmap_e14 hj) | exact hA _ _ 36 37 | exact hB _ _ | exact hC _ _ | exact bfit_same (scs_rens ..) | exact bfit_or g0 (by decide) (bfit_same (scs_rens ..)) | exact bfit_or h0 (by decide) (bfit_same (scs_rens ..)) | exact hE 0 _ (fun j hj => gmap_e14 hj) | exact hE 1 _ (fun j hj => gmap_e14 hj) | exact hE 2 _ (fun j hj => gmap_e14 hj) | exact hE 3 _ (fun j hj => gmap_e14 hj) | exact hE 4 _ (fun j hj => gmap_e14 hj) | exact hE 5 _ (fun j hj => gmap_e14 hj) | exact hE 6 _ (fun j hj => gmap_e14 hj) | exact hE 7 _ (fun j hj => gmap_e14 hj) | exact hE 8 _ (fun j hj => gmap_e14 hj) | exact hE 9 _ (fun j hj => gmap_e14 hj) | exact hE 10 _ (fun j hj => gmap_e14 hj) | exact hE 11 _ (fun j hj => gmap_e14 hj) | exact hE 12 _ (fun j hj => gmap_e14 hj) | exact hE 13 _ (fun j hj => gmap_e14 hj) | exact hE 14 _ (fun j hj => gmap_e14 hj) | exact hE 15 _ (fun j hj => gmap_e14 hj) | exact hE 16 _ (fun j hj => gmap_e14 hj) | exact hE 17 _ (fun j hj => gmap_e14 hj) | exact hE 18 _ (fun j hj => gmap_e14 hj) | exact hE 19 _ (fun j hj => gmap_e14 hj) | exact hE 20 _ (fun j hj => gmap_e14 hj) | exact hE 21 _ (fun j hj => gmap_e14 hj) | exact hE 22 _ (fun j hj => gmap_e14 hj) | exact hE 23 _ (fun j hj => gmap_e14 hj) | (simp only [go_sem, bfit, lc_fit, scs_fit, fit, ren, gmap, lw_plain, true_or, or_true])
      · exact uniq_nodup (by decide)
      · simp only [go_sem, rr60, ren, rens, gmap]
    · have hN0 : 0 < N := by omega
      have hgl := scs_get' N Lf (i := t) (by omega)
      have hgr := scs_get' N Rf (i := t) (by omega)
      have hgu := scs_get' N us (i := t) (by omega)
      have t0 : ((t : Int) < (N : Int)) = True := eq_true (by omega)
      simp only [dv_pos hN0, rob_pos hN0]
      refine run_driveS 80 ?_
      simp only [go_sem, lenO_sl, eq_int, decide_eq_false hN']
      refine run_cond_f (by rfl) ?_
      refine run_driveS 80 ?_
      simp only [go_sem]
      refine run_drw (by kernel_rfl) ?_
      refine drun_drive 40 (p := (_, _)) ?_
      simp only [go_sem, v60_6, t0, hgl, hgr, hgu, restore, Option.join_some, maskH, List.mapIdx_cons, List.mapIdx_nil, List.contains_cons, List.contains_nil, Bool.or_false, Bool.or_true, Bool.false_or, Bool.true_or, Nat.reduceBEq]
      have hm2 : 2 ^ (N - t) = 2 * 2 ^ (N - (t + 1)) := by rw [← Nat.pow_succ']; congr 1; omega
      have hm : 0 < 2 ^ (N - (t + 1)) := Nat.two_pow_pos _
      rw [hm2] at g0 h0 hc hd hn9 ⊢
      refine drun_call' ?_
      simp only [go_sem, calV, restore, Option.join_some, maskH, List.mapIdx_cons, List.mapIdx_nil, List.contains_cons, List.contains_nil, Bool.or_false, Bool.or_true, Bool.false_or, Bool.true_or, Nat.reduceBEq]
      refine vcall_at (folded_ hG (Ps us Lf Rf P t) Q' (Lf t) (Rf t) (us t) (2 ^ (N - (t + 1))) (Ps_lt hP t) hQ' (hL t) (hR t) (hus t) hm (by omega) c d hc hd (Gs us g N t) (Hs us h N t) (Gs_lt hg t) (Hs_lt hh t) (fun v k => v = stL (pf1 (Ps us Lf Rf P t) (Lf t) (Rf t) (us t)) Q' (.sl 2 0 (2 ^ (N - (t + 1))) (.exact (2 ^ (N - (t + 1))))) (.sl 3 0 (2 ^ (N - (t + 1))) (.exact (2 ^ (N - (t + 1))))) ∧ k = [some ⟨.ro, scs (2 * 2 ^ (N - (t + 1))) (Gs us g N t)⟩, some ⟨.ro, scs (2 * 2 ^ (N - (t + 1))) (Hs us h N t)⟩, some ⟨.rw, scs (2 ^ (N - (t + 1))) (Gs us g N (t + 1))⟩, some ⟨.rw, scs (2 ^ (N - (t + 1))) (Hs us h N (t + 1))⟩]) ⟨rfl, rfl⟩) [3, 4] (by simp) ?_ ?_ ?_ ?_
      · refine hfit_cons rfl ?_ (hfit_cons rfl ?_ hfit_nil)
        all_goals first | trivial | exact bfit_same (scs_rens ..) | (simp only [go_sem, bfit, lc_fit, scs_fit, fit, ren, gmap, lw_plain, true_or, or_true])
      · simp [uniq, wrB]
      · simp only [rens, ren, gmap, stL, lw_plain, rens_append, lc_rens]
      · rintro v k ⟨rfl, rfl⟩
        rw [puts_ro (by simp [wrB]) rfl (by simp)]
        simp only [List.map_cons, List.map_nil, Option.map_some, renB, scs_rens, rens_append, lc_rens, rens, ren, gmap, stL, List.drop_succ_cons, List.drop_zero, List.cons_append, List.nil_append, List.length_cons, List.length_nil, Nat.reduceAdd]
        refine drun_drive 40 (p := (_, _)) ?_
        simp only [go_sem, restore, Option.join_some, maskH, List.mapIdx_cons, List.mapIdx_nil, List.contains_cons, List.contains_nil, Bool.or_false, Bool.or_true, Bool.false_or, Bool.true_or, Nat.reduceBEq]
        refine drun_end ?_
        have hw : IntKind.i64.wrap ((t : Int) + 1) = ((t + 1 : Nat) : Int) := by rw [wrap_i64 (by omega) (by omega)]; omega
        refine run_driveS 80 ?_
        simp only [go_sem, v60_8, hw]
        have hx2 : bX N a b = some ⟨.ro, V.sl 5 0 N (.grow 4) :: V.sl 6 0 N (.grow 4) :: (lc a ++ lc b)⟩ := by unfold bX; rw [dv_pos hN0, dv_pos hN0]
        have hx3 : bU N = some ⟨.ro, [V.sl 7 0 N (.grow 4)]⟩ := by unfold bU; rw [dv_pos hN0]
        refine run_rename [0, 1, 2, 3, 4, 5, 6, 7, 8, 9, 10, 11, 12, 13, 14, 15, 16, 17, 18, 19, 20, 21, 22, 23, 24, 25, 26, 27, 28, 29, 30, 31, 32, 33, 34, 35, 36, 44, 45, 42, 43] rfl (by simp) ?_ ?_ ?_ (next (by omega) hI)
        · unfold hd1e
          refine hfit_cons rfl ?_ (hfit_cons rfl ?_ (hfit_cons rfl ?_ (hfit_cons rfl ?_ (hfit_cons rfl ?_ (hfit_cons rfl ?_ (hfit_cons rfl ?_ (hfit_cons rfl ?_ (hfit_cons rfl ?_ (hfit_cons rfl ?_ (hfit_cons rfl ?_ (hfit_cons rfl ?_ (hfit_cons rfl ?_ (hfit_cons rfl ?_ (hfit_cons rfl ?_ (hfit_cons rfl ?_ (hfit_cons rfl ?_ (hfit_cons rfl ?_ (hfit_cons rfl ?_ (hfit_cons rfl ?_ (hfit_cons rfl ?_ (hfit_cons rfl ?_ (hfit_cons rfl ?_ (hfit_cons rfl ?_ (hfit_cons rfl ?_ (hfit_cons rfl ?_ (hfit_cons rfl ?_ (hfit_cons rfl ?_ (hfit_cons rfl ?_ (hfit_cons rfl ?_ (hfit_cons rfl ?_ (hfit_cons rfl ?_ (hfit_cons rfl ?_ (hfit_cons rfl ?_ (hfit_cons rfl ?_ (hfit_cons rfl ?_ (hfit_cons rfl ?_ (hfit_cons rfl ?_ (hfit_cons rfl ?_ (hfit_cons rfl ?_ (hfit_cons rfl ?_ hfit_nil))))))))))))))))))))))))))))))))))))))))
          all_goals first | trivial | exact hft _ (fun j hj => gmap_e17 hj) | exact bfit_cast hx2 (hft2 _ (fun j hj => gmap_e17 hj)) | exact bfit_cast hx3 (hft3 _ (fun j hj => gmap_e17 hj)) | exact bfit_cast (rob_pos hN0) bfit_rob | exact hlp _ (fun j hj => gmap_e17 hj) | exact hA _ _ 39 40 | exact hB _ _ | exact hC _ _ | exact bfit_st2 rfl rfl | exact bfit_same (scs_rens ..) | exact bfit_or g0 (by decide) (bfit_same (scs_rens ..)) | exact bfit_or h0 (by decide) (bfit_same (scs_rens ..)) | exact hE 0 _ (fun j hj => gmap_e17 hj) | exact hE 1 _ (fun j hj => gmap_e17 hj) | exact hE 2 _ (fun j hj => gmap_e17 hj) | exact hE 3 _ (fun j hj => gmap_e17 hj) | exact hE 4 _ (fun j hj => gmap_e17 hj) | exact hE 5 _ (fun j hj => gmap_e17 hj) | exact hE 6 _ (fun j hj => gmap_e17 hj) | exact hE 7 _ (fun j hj => gmap_e17 hj) | exact hE 8 _ (fun j hj => gmap_e17 hj) | exact hE 9 _ (fun j hj => gmap_e17 hj) | exact hE 10 _ (fun j hj => gmap_e17 hj) | exact hE 11 _ (fun j hj => gmap_e17 hj) | exact hE 12 _ (fun j hj => gmap_e17 hj) | exact hE 13 _ (fun j hj => gmap_e17 hj) | exact hE 14 _ (fun j hj => gmap_e17 hj) | exact hE 15 _ (fun j hj => gmap_e17 hj) | exact hE 16 _ (fun j hj => gmap_e17 hj) | exact hE 17 _ (fun j hj => gmap_e17 hj) | exact hE 18 _ (fun j hj => gmap_e17 hj) | exact hE 19 _ (fun j hj => gmap_e17 hj) | exact hE 20 _ (fun j hj => gmap_e17 hj) | exact hE 21 _ (fun j hj => gmap_e17 hj) | exact hE 22 _ (fun j hj => gmap_e17 hj) | exact hE 23 _ (fun j hj => gmap_e17 hj) | (simp only [go_sem, bfit, lc_fit, scs_fit, fit, ren, gmap, lw_plain, true_or, or_true])
        · exact uniq_nodup (by decide)
        · unfold tm60e
          simp only [go_sem, hfit, lc_fit, scs_fit, fit, ren, gmap, lw_plain, true_or, or_true]
  · refine run_driveS 80 ?_
    simp only [go_sem]
    refine run_cond_t (by rfl) ?_
    refine run_ret_drop Tryd.func60 res60 [0, 1, 2, 3, 4, 5, 6, 7, 8, 9, 10, 11, 12, 13, 14, 15, 16, 17, 18, 19, 20, 21, 22, 23, 24, 25, 26, 27, 28, 29, 30, 31, 32, 33, 34, 35] (.tup []) _ rfl (by simp) ?_ ?_ ?_ (hQ2 r' A' B' C' hF)
    · refine hfit_cons rfl ?_ (hfit_cons rfl ?_ (hfit_cons rfl ?_ (hfit_cons rfl ?_ (hfit_cons rfl ?_ (hfit_cons rfl ?_ (hfit_cons rfl ?_ (hfit_cons rfl ?_ (hfit_cons rfl ?_ (hfit_cons rfl ?_ (hfit_cons rfl ?_ (hfit_cons rfl ?_ (hfit_cons rfl ?_ (hfit_cons rfl ?_ (hfit_cons rfl ?_ (hfit_cons rfl ?_ (hfit_cons rfl ?_ (hfit_cons rfl ?_ (hfit_cons rfl ?_ (hfit_cons rfl ?_ (hfit_cons rfl ?_ (hfit_cons rfl ?_ (hfit_cons rfl ?_ (hfit_cons rfl ?_ (hfit_cons rfl ?_ (hfit_cons rfl ?_ (hfit_cons rfl ?_ (hfit_cons rfl ?_ (hfit_cons rfl ?_ (hfit_cons rfl ?_ (hfit_cons rfl ?_ (hfit_cons rfl ?_ (hfit_cons rfl ?_ (hfit_cons rfl ?_ (hfit_cons rfl ?_ (hfit_cons rfl ?_ hfit_nil)))))))))))))))))))))))))))))))))))
      all_goals first | trivial | exact hft _ (fun j hj => gmap_e12 hj) | exact hft2 _ (fun j hj => gmap_e12 hj) | exact hft3 _ (fun j hj => gmap_e12 hj) | exact bfit_rob | exact (⟨.inl rfl, htm _ (fun j hj => gmap_e12 hj)⟩) | exact fA _ | exact fB _ | exact fC _ | exact bfit_same (scs_rens ..) | exact bfit_or g0 (by decide) (bfit_same (scs_rens ..)) | exact bfit_or h0 (by decide) (bfit_same (scs_rens ..)) | exact hE 0 _ (fun j hj => gmap_e12 hj) | exact hE 1 _ (fun j hj => gmap_e12 hj) | exact hE 2 _ (fun j hj => gmap_e12 hj) | exact hE 3 _ (fun j hj => gmap_e12 hj) | exact hE 4 _ (fun j hj => gmap_e12 hj) | exact hE 5 _ (fun j hj => gmap_e12 hj) | exact hE 6 _ (fun j hj => gmap_e12 hj) | exact hE 7 _ (fun j hj => gmap_e12 hj) | exact hE 8 _ (fun j hj => gmap_e12 hj) | exact hE 9 _ (fun j hj => gmap_e12 hj) | exact hE 10 _ (fun j hj => gmap_e12 hj) | exact hE 11 _ (fun j hj => gmap_e12 hj) | exact hE 12 _ (fun j hj => gmap_e12 hj) | exact hE 13 _ (fun j hj => gmap_e12 hj) | exact hE 14 _ (fun j hj => gmap_e12 hj) | exact hE 15 _ (fun j hj => gmap_e12 hj) | exact hE 16 _ (fun j hj => gmap_e12 hj) | exact hE 17 _ (fun j hj => gmap_e12 hj) | exact hE 18 _ (fun j hj => gmap_e12 hj) | exact hE 19 _ (fun j hj => gmap_e12 hj) | exact hE 20 _ (fun j hj => gmap_e12 hj) | exact hE 21 _ (fun j hj => gmap_e12 hj) | exact hE 22 _ (fun j hj => gmap_e12 hj) | exact hE 23 _ (fun j hj => gmap_e12 hj) | (simp only [go_sem, bfit, lc_fit, scs_fit, fit, ren, gmap, lw_plain, true_or, or_true])
    · exact uniq_nodup (by decide)
    · simp only [go_sem, rr60, ren, rens, gmap]
theorem stepE1 (hG : G 0 = tbl) (hN : N ≤ 10) (hus : ∀ j, us j < 115792089237316195423570985008687907853269984665640564039457584007913129639936) (hz : ∀ j, j < N → us j % ell ≠ 0) (hg : ∀ j, g j < 115792089237316195423570985008687907853269984665640564039457584007913129639936) (hh : ∀ j, h j < 115792089237316195423570985008687907853269984665640564039457584007913129639936) (hL : ∀ j, Lf j < 115792089237316195423570985008687907853269984665640564039457584007913129639936) (hR : ∀ j, Rf j < 115792089237316195423570985008687907853269984665640564039457584007913129639936) (hP : P < 115792089237316195423570985008687907853269984665640564039457584007913129639936) (hQ' : Q' < 115792089237316195423570985008687907853269984665640564039457584007913129639936) (htm : ∀ f : Nat → Nat, (∀ j, j < 36 → f j = j) → fit f tm tm)
    (hA : ∀ f t i j, bfit f (A t i j) (A t (f i) (f j))) (hB : ∀ f t, bfit f (B t) (B t)) (hC : ∀ f t, bfit f (C t) (C t)) (hA0 : ∀ i j, A 0 i j = A 0 0 0) (hE : ∀ (i : Nat) (f : Nat → Nat), (∀ j, j < 36 → f j = j) → bfit f (E i) (E i))
    (Q : V → Heap → Prop) (Fs : Loop → Option Blk → Option Blk → Option Blk → Prop) (Inn : Nat → Prop)
    (hY : ∀ t, t ≤ N → Inn t → ∀ B0 B1 B2 B3 B4 B5 B6 B7 B12 B13 B14 B17, YCall Tryd.prog G 8 [stL (Ps us Lf Rf P t) Q' (.sl 42 0 (2 ^ (N - t)) (.grow 4)) (.sl 43 0 (2 ^ (N - t)) (.grow 4))]
      [B0, B1, B2, B3, B4, B5, B6, B7, some ⟨.loop r, tm⟩, A t 39 40, B t, C t, E 0, E 1, E 2, E 3, E 4, E 5, E 6, E 7, E 8, E 9, E 10, E 11, E 12, E 13, E 14, E 15, E 16, E 17, E 18, E 19, E 20, E 21, E 22, E 23, B12, B13, B14, none, none, B17, some ⟨.grow, scs (2 ^ (N - t)) (Gs us g N t)⟩, some ⟨.grow, scs (2 ^ (N - t)) (Hs us h N t)⟩]
      fun v h' => (v = .bool true ∧ Inn (t + 1) ∧ ∃ X, h' = B0 :: B1 :: B2 :: B3 :: B4 :: B5 :: B6 :: B7 :: some ⟨.loop r, tm⟩ :: A (t + 1) 42 43 :: B (t + 1) :: C (t + 1) :: E 0 :: E 1 :: E 2 :: E 3 :: E 4 :: E 5 :: E 6 :: E 7 :: E 8 :: E 9 :: E 10 :: E 11 :: E 12 :: E 13 :: E 14 :: E 15 :: E 16 :: E 17 :: E 18 :: E 19 :: E 20 :: E 21 :: E 22 :: E 23 :: B12 :: B13 :: B14 :: none :: none :: B17 :: X) ∨
        (v = .bool false ∧ ∃ r' A' B' C' X, h' = B0 :: B1 :: B2 :: B3 :: B4 :: B5 :: B6 :: B7 :: some ⟨.loop r', tm⟩ :: A' :: B' :: C' :: E 0 :: E 1 :: E 2 :: E 3 :: E 4 :: E 5 :: E 6 :: E 7 :: E 8 :: E 9 :: E 10 :: E 11 :: E 12 :: E 13 :: E 14 :: E 15 :: E 16 :: E 17 :: E 18 :: E 19 :: E 20 :: E 21 :: E 22 :: E 23 :: X ∧ (∀ f, bfit f A' A') ∧ (∀ f, bfit f B' B') ∧ (∀ f, bfit f C' C') ∧ Fs r' A' B' C'))
    (hQ1 : Inn (N + 1) → Q (.tup []) [bS N P Q', bX N a b, bU N, some ⟨.ro, scs (2 ^ N) g⟩, some ⟨.ro, scs (2 ^ N) h⟩, rob Lf N, rob Rf N, rob us N, some ⟨.loop r, tm⟩, A (N + 1) 36 37, B (N + 1), C (N + 1), E 0, E 1, E 2, E 3, E 4, E 5, E 6, E 7, E 8, E 9, E 10, E 11, E 12, E 13, E 14, E 15, E 16, E 17, E 18, E 19, E 20, E 21, E 22, E 23, none, none])
    (hQ2 : ∀ r' A' B' C', Fs r' A' B' C' → Q (.tup []) [bS N P Q', bX N a b, bU N, some ⟨.ro, scs (2 ^ N) g⟩, some ⟨.ro, scs (2 ^ N) h⟩, rob Lf N, rob Rf N, rob us N, some ⟨.loop r', tm⟩, A', B', C', E 0, E 1, E 2, E 3, E 4, E 5, E 6, E 7, E 8, E 9, E 10, E 11, E 12, E 13, E 14, E 15, E 16, E 17, E 18, E 19, E 20, E 21, E 22, E 23])
    (t : Nat) (c d : Cap) (ht : t ≤ N) (hIt : Inn t) (hc : CapOk c (2 ^ (N - t))) (hd : CapOk d (2 ^ (N - t))) (g0 : some (⟨.ro, scs (2 ^ (N - t)) (Gs us g N t)⟩ : Blk) = some ⟨.ro, scs (2 ^ N) g⟩ ∨ 13 = 13) (h0 : some (⟨.ro, scs (2 ^ (N - t)) (Hs us h N t)⟩ : Blk) = some ⟨.ro, scs (2 ^ N) h⟩ ∨ 13 = 13)
    (next : t < N → Inn (t + 1) → RunM Tryd.prog G 60 36 {} Q ([TI.l v60_9, TI.b 0], ⟨tm60e (t + 1), hd1e us g h Lf Rf N P Q' a b r tm A B C E (t + 1) (.exact (2 ^ (N - (t + 1)))) (.exact (2 ^ (N - (t + 1))))⟩)) :
    RunM Tryd.prog G 60 36 {} Q ([TI.l v60_9, TI.b 0], ⟨tm60e t, hd1e us g h Lf Rf N P Q' a b r tm A B C E t c d⟩) := by
  have hp : 2 ^ N ≤ 2 ^ 10 := Nat.pow_le_pow_right (by decide) hN
  have hp0 : 0 < 2 ^ N := Nat.two_pow_pos N
  have hft : ∀ f, (∀ j, j < 36 → f j = j) → bfit f (bS N P Q') (bS N P Q') := fun f hf => by
    unfold bS
    exact bfit_same (by simp only [rens_append, lc_rens, rens, ren, hf 3 (by decide), hf 4 (by decide)])
  have hft2 : ∀ f, (∀ j, j < 36 → f j = j) → bfit f (bX N a b) (bX N a b) := fun f hf => by
    unfold bX
    exact bfit_same (by simp only [rens_append, lc_rens, rens, dv_ren, hf 5 (by decide), hf 6 (by decide)])
  have hft3 : ∀ f, (∀ j, j < 36 → f j = j) → bfit f (bU N) (bU N) := fun f hf => by
    unfold bU
    exact bfit_same (by simp only [rens, dv_ren, hf 7 (by decide)])
  have hlp : ∀ f : Nat → Nat, (∀ j, j < 36 → f j = j) → bfit f (some ⟨.loop r, tm⟩) (some ⟨.loop r, tm⟩) := fun f hf => ⟨.inl rfl, htm f hf⟩
  unfold tm60e hd1e bS bX bU
  refine run_loop_eq v60_9.eq_1 ?_
  refine run_driveS 80 ?_
  simp only [go_sem, v60_7, v60_3]
  have hn := Nat.two_pow_pos (N - t)
  have hn9 : 2 ^ (N - t) ≤ 2 ^ N := Nat.pow_le_pow_right (by decide) (by omega)
  have e0 : (2 ^ (N - t) = 0) = False := eq_false (by omega)
  have e1 : (2 ^ (N - t) * 32 ≤ 281474976710656) = True := eq_true (by omega)
  have e2 : (2 ^ (N - t) ≤ 9223372036854775807) = True := eq_true (by omega)
  refine run_drw (by kernel_rfl) ?_
  refine drun_drive 40 (p := (_, _)) ?_
  simp only [go_sem, v60_4, e0, e1, e2, scs_tk, look_ro, restore, Option.join_some, maskH, List.mapIdx_cons, List.mapIdx_nil, List.contains_cons, List.contains_nil, Bool.or_false, Bool.or_true, Bool.false_or, Bool.true_or, Nat.reduceBEq]
  rw [st_t9, st_d10, st_ap]
  refine drun_end ?_
  refine run_driveS 80 ?_
  simp only [go_sem, v60_5]
  refine run_yield' 8 rfl rfl ⟨.loop r, tm⟩ rfl rfl (YCall.mono (hY t ht hIt _ _ _ _ _ _ _ _ _ _ _ _) ?_)
  rintro v h' (⟨rfl, hI, X, rfl⟩ | ⟨rfl, r', A', B', C', X, rfl, fA, fB, fC, hF⟩)
  · refine trimE (uniqE rfl) ?_ ?_
    rotate_left
    · intro f hf
      refine ⟨by simp only [go_sem, fit, ren, hf 0, hf 1, hf 2, hf 3, hf 4, hf 8, hf 36, hf 37, hf 38, hf 41, hf 42, hf 43, rens_append, lc_rens, rens, true_or, or_true], ?_⟩
      refine ⟨hft f fun j hj => hf j (by omega), hft2 f fun j hj => hf j (by omega), hft3 f fun j hj => hf j (by omega), ?_⟩
      have hA1 := hA f (t + 1) 42 43
      rw [hf 42 (by decide), hf 43 (by decide)] at hA1
      exact ⟨bfit_same (scs_rens ..), bfit_same (scs_rens ..), bfit_rob, bfit_rob, bfit_rob, hlp f (fun j hj => hf j (by omega)), hA1, hB f _, hC f _, hE 0 f fun j hj => hf j (by omega), hE 1 f fun j hj => hf j (by omega), hE 2 f fun j hj => hf j (by omega), hE 3 f fun j hj => hf j (by omega), hE 4 f fun j hj => hf j (by omega), hE 5 f fun j hj => hf j (by omega), hE 6 f fun j hj => hf j (by omega), hE 7 f fun j hj => hf j (by omega), hE 8 f fun j hj => hf j (by omega), hE 9 f fun j hj => hf j (by omega), hE 10 f fun j hj => hf j (by omega), hE 11 f fun j hj => hf j (by omega), hE 12 f fun j hj => hf j (by omega), hE 13 f fun j hj => hf j (by omega), hE 14 f fun j hj => hf j (by omega), hE 15 f fun j hj => hf j (by omega), hE 16 f fun j hj => hf j (by omega), hE 17 f fun j hj => hf j (by omega), hE 18 f fun j hj => hf j (by omega), hE 19 f fun j hj => hf j (by omega), hE 20 f fun j hj => hf j (by omega), hE 21 f fun j hj => hf j (by omega), hE 22 f fun j hj => hf j (by omega), hE 23 f fun j hj => hf j (by omega), bfit_st (hf _ (by decide)) (hf _ (by decide)), by first | trivial | exact bfit_same (scs_rens ..), by first | trivial | exact bfit_same (scs_rens ..), trivial, trivial, bfit_st (hf _ (by decide)) (hf _ (by decide))⟩
    by_cases hN' : t = N
    · subst hN'
      refine run_driveS 80 ?_
      simp only [go_sem, lenO_dv, eq_int, decide_true]
      refine run_cond_t (by rfl) ?_
      refine run_ret_drop Tryd.func60 res60 [0, 1, 2, 3, 4, 5, 6, 7, 8, 9, 10, 11, 12, 13, 14, 15, 16, 17, 18, 19, 20, 21, 22, 23, 24, 25, 26, 27, 28, 29, 30, 31, 32, 33, 34, 35, 42, 43] (.tup []) _ rfl (by simp) ?_ ?_ ?_ (hQ1 hI)
      · refine hfit_cons rfl ?_ (hfit_cons rfl ?_ (hfit_cons rfl ?_ (hfit_cons rfl ?_ (hfit_cons rfl ?_ (hfit_cons rfl ?_ (hfit_cons rfl ?_ (hfit_cons rfl ?_ (hfit_cons rfl ?_ (hfit_cons rfl ?_ (hfit_cons rfl ?_ (hfit_cons rfl ?_ (hfit_cons rfl ?_ (hfit_cons rfl ?_ (hfit_cons rfl ?_ (hfit_cons rfl ?_ (hfit_cons rfl ?_ (hfit_cons rfl ?_ (hfit_cons rfl ?_ (hfit_cons rfl ?_ (hfit_cons rfl ?_ (hfit_cons rfl ?_ (hfit_cons rfl ?_ (hfit_cons rfl ?_ (hfit_cons rfl ?_ (hfit_cons rfl ?_ (hfit_cons rfl ?_ (hfit_cons rfl ?_ (hfit_cons rfl ?_ (hfit_cons rfl ?_ (hfit_cons rfl ?_ (hfit_cons rfl ?_ (hfit_cons rfl ?_ (hfit_cons rfl ?_ (hfit_cons rfl ?_ (hfit_cons rfl ?_ (hfit_cons rfl ?_ (hfit_cons rfl ?_ hfit_nil)))))))))))))))))))))))))))))))))))))
        all_goals first | trivial | exact hft _ (fun j hj => gmap_e14 hj) | exact hft2 _ (fun j hj => gmap_e14 hj) | exact hft3 _ (fun j hj => gmap_e14 hj) | exact bfit_rob | exact hlp _ (fun j hj => gmap_e14 hj) | exact hA _ _ 36 37 | exact hB _ _ | exact hC _ _ | exact bfit_same (scs_rens ..) | exact bfit_or g0 (by decide) (bfit_same (scs_rens ..)) | exact bfit_or h0 (by decide) (bfit_same (scs_rens ..)) | exact hE 0 _ (fun j hj => gmap_e14 hj) | exact hE 1 _ (fun j hj => gmap_e14 hj) | exact hE 2 _ (fun j hj => gmap_e14 hj) | exact hE 3 _ (fun j hj => gmap_e14 hj) | exact hE 4 _ (fun j hj => gmap_e14 hj) | exact hE 5 _ (fun j hj => gmap_e14 hj) | exact hE 6 _ (fun j hj => gmap_e14 hj) | exact hE 7 _ (fun j hj => gmap_e14 hj) | exact hE 8 _ (fun j hj => gmap_e14 hj) | exact hE 9 _ (fun j hj => gmap_e14 hj) | exact hE 10 _ (fun j hj => gmap_e14 hj) | exact hE 11 _ (fun j hj => gmap_e14 hj) | exact hE 12 _ (fun j hj => gmap_e14 hj) | exact hE 13 _ (fun j hj => gmap_e14 hj) | exact hE 14 _ (fun j hj => gmap_e14 hj) | exact hE 15 _ (fun j hj => gmap_e14 hj) | exact hE 16 _ (fun j hj => gmap_e14 hj) | exact hE 17 _ (fun j hj => gmap_e14 hj) | exact hE 18 _ (fun j hj => gmap_e14 hj) | exact hE 19 _ (fun j hj => gmap_e14 hj) | exact hE 20 _ (fun j hj => gmap_e14 hj) | exact hE 21 _ (fun j hj => gmap_e14 hj) | exact hE 22 _ (fun j hj => gmap_e14 hj) | exact hE 23 _ (fun j hj => gmap_e14 hj) | (simp only [go_sem, bfit, lc_fit, scs_fit, fit, ren, gmap, lw_plain, true_or, or_true])
      · exact uniq_nodup (by decide)
      · simp only [go_sem, rr60, ren, rens, gmap]
    · have hN0 : 0 < N := by omega
      have hgl := scs_get' N Lf (i := t) (by omega)
      have hgr := scs_get' N Rf (i := t) (by omega)
      have hgu := scs_get' N us (i := t) (by omega)
      have t0 : ((t : Int) < (N : Int)) = True := eq_true (by omega)
      simp only [dv_pos hN0, rob_pos hN0]
      refine run_driveS 80 ?_
      simp only [go_sem, lenO_sl, eq_int, decide_eq_false hN']
      refine run_cond_f (by rfl) ?_
      refine run_driveS 80 ?_
      simp only [go_sem]
      refine run_drw (by kernel_rfl) ?_
      refine drun_drive 40 (p := (_, _)) ?_
      simp only [go_sem, v60_6, t0, hgl, hgr, hgu, restore, Option.join_some, maskH, List.mapIdx_cons, List.mapIdx_nil, List.contains_cons, List.contains_nil, Bool.or_false, Bool.or_true, Bool.false_or, Bool.true_or, Nat.reduceBEq]
      have hm2 : 2 ^ (N - t) = 2 * 2 ^ (N - (t + 1)) := by rw [← Nat.pow_succ']; congr 1; omega
      have hm : 0 < 2 ^ (N - (t + 1)) := Nat.two_pow_pos _
      rw [hm2] at g0 h0 hc hd hn9 ⊢
      refine drun_call' ?_
      simp only [go_sem, calV, restore, Option.join_some, maskH, List.mapIdx_cons, List.mapIdx_nil, List.contains_cons, List.contains_nil, Bool.or_false, Bool.or_true, Bool.false_or, Bool.true_or, Nat.reduceBEq]
      refine vcall_at (folded_ hG (Ps us Lf Rf P t) Q' (Lf t) (Rf t) (us t) (2 ^ (N - (t + 1))) (Ps_lt hP t) hQ' (hL t) (hR t) (hus t) hm (by omega) c d hc hd (Gs us g N t) (Hs us h N t) (Gs_lt hg t) (Hs_lt hh t) (fun v k => v = stL (pf1 (Ps us Lf Rf P t) (Lf t) (Rf t) (us t)) Q' (.sl 2 0 (2 ^ (N - (t + 1))) (.exact (2 ^ (N - (t + 1))))) (.sl 3 0 (2 ^ (N - (t + 1))) (.exact (2 ^ (N - (t + 1))))) ∧ k = [some ⟨.ro, scs (2 * 2 ^ (N - (t + 1))) (Gs us g N t)⟩, some ⟨.ro, scs (2 * 2 ^ (N - (t + 1))) (Hs us h N t)⟩, some ⟨.rw, scs (2 ^ (N - (t + 1))) (Gs us g N (t + 1))⟩, some ⟨.rw, scs (2 ^ (N - (t + 1))) (Hs us h N (t + 1))⟩]) ⟨rfl, rfl⟩) [37, 38] (by simp) ?_ ?_ ?_ ?_
      · refine hfit_cons rfl ?_ (hfit_cons rfl ?_ hfit_nil)
        all_goals first | trivial | exact bfit_same (scs_rens ..) | (simp only [go_sem, bfit, lc_fit, scs_fit, fit, ren, gmap, lw_plain, true_or, or_true])
      · simp [uniq, wrB]
      · simp only [rens, ren, gmap, stL, lw_plain, rens_append, lc_rens]
      · rintro v k ⟨rfl, rfl⟩
        rw [puts_ro (by simp [wrB]) rfl (by simp)]
        simp only [List.map_cons, List.map_nil, Option.map_some, renB, scs_rens, rens_append, lc_rens, rens, ren, gmap, stL, List.drop_succ_cons, List.drop_zero, List.cons_append, List.nil_append, List.length_cons, List.length_nil, Nat.reduceAdd]
        refine drun_drive 40 (p := (_, _)) ?_
        simp only [go_sem, restore, Option.join_some, maskH, List.mapIdx_cons, List.mapIdx_nil, List.contains_cons, List.contains_nil, Bool.or_false, Bool.or_true, Bool.false_or, Bool.true_or, Nat.reduceBEq]
        refine drun_end ?_
        have hw : IntKind.i64.wrap ((t : Int) + 1) = ((t + 1 : Nat) : Int) := by rw [wrap_i64 (by omega) (by omega)]; omega
        refine run_driveS 80 ?_
        simp only [go_sem, v60_8, hw]
        have hx2 : bX N a b = some ⟨.ro, V.sl 5 0 N (.grow 4) :: V.sl 6 0 N (.grow 4) :: (lc a ++ lc b)⟩ := by unfold bX; rw [dv_pos hN0, dv_pos hN0]
        have hx3 : bU N = some ⟨.ro, [V.sl 7 0 N (.grow 4)]⟩ := by unfold bU; rw [dv_pos hN0]
        refine run_rename [0, 1, 2, 3, 4, 5, 6, 7, 8, 9, 10, 11, 12, 13, 14, 15, 16, 17, 18, 19, 20, 21, 22, 23, 24, 25, 26, 27, 28, 29, 30, 31, 32, 33, 34, 35, 36, 44, 45, 42, 43] rfl (by simp) ?_ ?_ ?_ (next (by omega) hI)
        · unfold hd1e
          refine hfit_cons rfl ?_ (hfit_cons rfl ?_ (hfit_cons rfl ?_ (hfit_cons rfl ?_ (hfit_cons rfl ?_ (hfit_cons rfl ?_ (hfit_cons rfl ?_ (hfit_cons rfl ?_ (hfit_cons rfl ?_ (hfit_cons rfl ?_ (hfit_cons rfl ?_ (hfit_cons rfl ?_ (hfit_cons rfl ?_ (hfit_cons rfl ?_ (hfit_cons rfl ?_ (hfit_cons rfl ?_ (hfit_cons rfl ?_ (hfit_cons rfl ?_ (hfit_cons rfl ?_ (hfit_cons rfl ?_ (hfit_cons rfl ?_ (hfit_cons rfl ?_ (hfit_cons rfl ?_ (hfit_cons rfl ?_ (hfit_cons rfl ?_ (hfit_cons rfl ?_ (hfit_cons rfl ?_ (hfit_cons rfl ?_ (hfit_cons rfl ?_ (hfit_cons rfl ?_ (hfit_cons rfl ?_ (hfit_cons rfl ?_ (hfit_cons rfl ?_ (hfit_cons rfl ?_ (hfit_cons rfl ?_ (hfit_cons rfl ?_ (hfit_cons rfl ?_ (hfit_cons rfl ?_ (hfit_cons rfl ?_ (hfit_cons rfl ?_ (hfit_cons rfl ?_ hfit_nil))))))))))))))))))))))))))))))))))))))))
          all_goals first | trivial | exact hft _ (fun j hj => gmap_e17 hj) | exact bfit_cast hx2 (hft2 _ (fun j hj => gmap_e17 hj)) | exact bfit_cast hx3 (hft3 _ (fun j hj => gmap_e17 hj)) | exact bfit_cast (rob_pos hN0) bfit_rob | exact hlp _ (fun j hj => gmap_e17 hj) | exact hA _ _ 39 40 | exact hB _ _ | exact hC _ _ | exact bfit_st2 rfl rfl | exact bfit_same (scs_rens ..) | exact bfit_or g0 (by decide) (bfit_same (scs_rens ..)) | exact bfit_or h0 (by decide) (bfit_same (scs_rens ..)) | exact hE 0 _ (fun j hj => gmap_e17 hj) | exact hE 1 _ (fun j hj => gmap_e17 hj) | exact hE 2 _ (fun j hj => gmap_e17 hj) | exact hE 3 _ (fun j hj => gmap_e17 hj) | exact hE 4 _ (fun j hj => gmap_e17 hj) | exact hE 5 _ (fun j hj => gmap_e17 hj) | exact hE 6 _ (fun j hj => gmap_e17 hj) | exact hE 7 _ (fun j hj => gmap_e17 hj) | exact hE 8 _ (fun j hj => gmap_e17 hj) | exact hE 9 _ (fun j hj => gmap_e17 hj) | exact hE 10 _ (fun j hj => gmap_e17 hj) | exact hE 11 _ (fun j hj => gmap_e17 hj) | exact hE 12 _ (fun j hj => gmap_e17 hj) | exact hE 13 _ (fun j hj => gmap_e17 hj) | exact hE 14 _ (fun j hj => gmap_e17 hj) | exact hE 15 _ (fun j hj => gmap_e17 hj) | exact hE 16 _ (fun j hj => gmap_e17 hj) | exact hE 17 _ (fun j hj => gmap_e17 hj) | exact hE 18 _ (fun j hj => gmap_e17 hj) | exact hE 19 _ (fun j hj => gmap_e17 hj) | exact hE 20 _ (fun j hj => gmap_e17 hj) | exact hE 21 _ (fun j hj => gmap_e17 hj) | exact hE 22 _ (fun j hj => gmap_e17 hj) | exact hE 23 _ (fun j hj => gmap_e17 hj) | (simp only [go_sem, bfit, lc_fit, scs_fit, fit, ren, gmap, lw_plain, true_or, or_true])
        · exact uniq_nodup (by decide)
        · unfold tm60e
          simp only [go_sem, hfit, lc_fit, scs_fit, fit, ren, gmap, lw_plain, true_or, or_true]
  · refine run_driveS 80 ?_
    simp only [go_sem]
    refine run_cond_t (by rfl) ?_
    refine run_ret_drop Tryd.func60 res60 [0, 1, 2, 3, 4, 5, 6, 7, 8, 9, 10, 11, 12, 13, 14, 15, 16, 17, 18, 19, 20, 21, 22, 23, 24, 25, 26, 27, 28, 29, 30, 31, 32, 33, 34, 35] (.tup []) _ rfl (by simp) ?_ ?_ ?_ (hQ2 r' A' B' C' hF)
    · refine hfit_cons rfl ?_ (hfit_cons rfl ?_ (hfit_cons rfl ?_ (hfit_cons rfl ?_ (hfit_cons rfl ?_ (hfit_cons rfl ?_ (hfit_cons rfl ?_ (hfit_cons rfl ?_ (hfit_cons rfl ?_ (hfit_cons rfl ?_ (hfit_cons rfl ?_ (hfit_cons rfl ?_ (hfit_cons rfl ?_ (hfit_cons rfl ?_ (hfit_cons rfl ?_ (hfit_cons rfl ?_ (hfit_cons rfl ?_ (hfit_cons rfl ?_ (hfit_cons rfl ?_ (hfit_cons rfl ?_ (hfit_cons rfl ?_ (hfit_cons rfl ?_ (hfit_cons rfl ?_ (hfit_cons rfl ?_ (hfit_cons rfl ?_ (hfit_cons rfl ?_ (hfit_cons rfl ?_ (hfit_cons rfl ?_ (hfit_cons rfl ?_ (hfit_cons rfl ?_ (hfit_cons rfl ?_ (hfit_cons rfl ?_ (hfit_cons rfl ?_ (hfit_cons rfl ?_ (hfit_cons rfl ?_ (hfit_cons rfl ?_ hfit_nil)))))))))))))))))))))))))))))))))))
      all_goals first | trivial | exact hft _ (fun j hj => gmap_e12 hj) | exact hft2 _ (fun j hj => gmap_e12 hj) | exact hft3 _ (fun j hj => gmap_e12 hj) | exact bfit_rob | exact (⟨.inl rfl, htm _ (fun j hj => gmap_e12 hj)⟩) | exact fA _ | exact fB _ | exact fC _ | exact bfit_same (scs_rens ..) | exact bfit_or g0 (by decide) (bfit_same (scs_rens ..)) | exact bfit_or h0 (by decide) (bfit_same (scs_rens ..)) | exact hE 0 _ (fun j hj => gmap_e12 hj) | exact hE 1 _ (fun j hj => gmap_e12 hj) | exact hE 2 _ (fun j hj => gmap_e12 hj) | exact hE 3 _ (fun j hj => gmap_e12 hj) | exact hE 4 _ (fun j hj => gmap_e12 hj) | exact hE 5 _ (fun j hj => gmap_e12 hj) | exact hE 6 _ (fun j hj => gmap_e12 hj) | exact hE 7 _ (fun j hj => gmap_e12 hj) | exact hE 8 _ (fun j hj => gmap_e12 hj) | exact hE 9 _ (fun j hj => gmap_e12 hj) | exact hE 10 _ (fun j hj => gmap_e12 hj) | exact hE 11 _ (fun j hj => gmap_e12 hj) | exact hE 12 _ (fun j hj => gmap_e12 hj) | exact hE 13 _ (fun j hj => gmap_e12 hj) | exact hE 14 _ (fun j hj => gmap_e12 hj) | exact hE 15 _ (fun j hj => gmap_e12 hj) | exact hE 16 _ (fun j hj => gmap_e12 hj) | exact hE 17 _ (fun j hj => gmap_e12 hj) | exact hE 18 _ (fun j hj => gmap_e12 hj) | exact hE 19 _ (fun j hj => gmap_e12 hj) | exact hE 20 _ (fun j hj => gmap_e12 hj) | exact hE 21 _ (fun j hj => gmap_e12 hj) | exact hE 22 _ (fun j hj => gmap_e12 hj) | exact hE 23 _ (fun j hj => gmap_e12 hj) | (simp only [go_sem, bfit, lc_fit, scs_fit, fit, ren, gmap, lw_plain, true_or, or_true])
    · exact uniq_nodup (by decide)
    · simp only [go_sem, rr60, ren, rens, gmap]
theorem rounds1e (hG : G 0 = tbl) (hN : N ≤ 10) (hus : ∀ j, us j < 115792089237316195423570985008687907853269984665640564039457584007913129639936) (hz : ∀ j, j < N → us j % ell ≠ 0) (hg : ∀ j, g j < 115792089237316195423570985008687907853269984665640564039457584007913129639936) (hh : ∀ j, h j < 115792089237316195423570985008687907853269984665640564039457584007913129639936) (hL : ∀ j, Lf j < 115792089237316195423570985008687907853269984665640564039457584007913129639936) (hR : ∀ j, Rf j < 115792089237316195423570985008687907853269984665640564039457584007913129639936) (hP : P < 115792089237316195423570985008687907853269984665640564039457584007913129639936) (hQ' : Q' < 115792089237316195423570985008687907853269984665640564039457584007913129639936) (htm : ∀ f : Nat → Nat, (∀ j, j < 36 → f j = j) → fit f tm tm)
    (hA : ∀ f t i j, bfit f (A t i j) (A t (f i) (f j))) (hB : ∀ f t, bfit f (B t) (B t)) (hC : ∀ f t, bfit f (C t) (C t)) (hA0 : ∀ i j, A 0 i j = A 0 0 0) (hE : ∀ (i : Nat) (f : Nat → Nat), (∀ j, j < 36 → f j = j) → bfit f (E i) (E i))
    (Q : V → Heap → Prop) (Fs : Loop → Option Blk → Option Blk → Option Blk → Prop) (Inn : Nat → Prop) (hI0 : Inn 0)
    (hY : ∀ t, t ≤ N → Inn t → ∀ B0 B1 B2 B3 B4 B5 B6 B7 B12 B13 B14 B17, YCall Tryd.prog G 8 [stL (Ps us Lf Rf P t) Q' (.sl 42 0 (2 ^ (N - t)) (.grow 4)) (.sl 43 0 (2 ^ (N - t)) (.grow 4))]
      [B0, B1, B2, B3, B4, B5, B6, B7, some ⟨.loop r, tm⟩, A t 39 40, B t, C t, E 0, E 1, E 2, E 3, E 4, E 5, E 6, E 7, E 8, E 9, E 10, E 11, E 12, E 13, E 14, E 15, E 16, E 17, E 18, E 19, E 20, E 21, E 22, E 23, B12, B13, B14, none, none, B17, some ⟨.grow, scs (2 ^ (N - t)) (Gs us g N t)⟩, some ⟨.grow, scs (2 ^ (N - t)) (Hs us h N t)⟩]
      fun v h' => (v = .bool true ∧ Inn (t + 1) ∧ ∃ X, h' = B0 :: B1 :: B2 :: B3 :: B4 :: B5 :: B6 :: B7 :: some ⟨.loop r, tm⟩ :: A (t + 1) 42 43 :: B (t + 1) :: C (t + 1) :: E 0 :: E 1 :: E 2 :: E 3 :: E 4 :: E 5 :: E 6 :: E 7 :: E 8 :: E 9 :: E 10 :: E 11 :: E 12 :: E 13 :: E 14 :: E 15 :: E 16 :: E 17 :: E 18 :: E 19 :: E 20 :: E 21 :: E 22 :: E 23 :: B12 :: B13 :: B14 :: none :: none :: B17 :: X) ∨
        (v = .bool false ∧ ∃ r' A' B' C' X, h' = B0 :: B1 :: B2 :: B3 :: B4 :: B5 :: B6 :: B7 :: some ⟨.loop r', tm⟩ :: A' :: B' :: C' :: E 0 :: E 1 :: E 2 :: E 3 :: E 4 :: E 5 :: E 6 :: E 7 :: E 8 :: E 9 :: E 10 :: E 11 :: E 12 :: E 13 :: E 14 :: E 15 :: E 16 :: E 17 :: E 18 :: E 19 :: E 20 :: E 21 :: E 22 :: E 23 :: X ∧ (∀ f, bfit f A' A') ∧ (∀ f, bfit f B' B') ∧ (∀ f, bfit f C' C') ∧ Fs r' A' B' C'))
    (hQ1 : Inn (N + 1) → Q (.tup []) [bS N P Q', bX N a b, bU N, some ⟨.ro, scs (2 ^ N) g⟩, some ⟨.ro, scs (2 ^ N) h⟩, rob Lf N, rob Rf N, rob us N, some ⟨.loop r, tm⟩, A (N + 1) 36 37, B (N + 1), C (N + 1), E 0, E 1, E 2, E 3, E 4, E 5, E 6, E 7, E 8, E 9, E 10, E 11, E 12, E 13, E 14, E 15, E 16, E 17, E 18, E 19, E 20, E 21, E 22, E 23, none, none])
    (hQ2 : ∀ r' A' B' C', Fs r' A' B' C' → Q (.tup []) [bS N P Q', bX N a b, bU N, some ⟨.ro, scs (2 ^ N) g⟩, some ⟨.ro, scs (2 ^ N) h⟩, rob Lf N, rob Rf N, rob us N, some ⟨.loop r', tm⟩, A', B', C', E 0, E 1, E 2, E 3, E 4, E 5, E 6, E 7, E 8, E 9, E 10, E 11, E 12, E 13, E 14, E 15, E 16, E 17, E 18, E 19, E 20, E 21, E 22, E 23]) :
    VCall Tryd.prog G 60 [.yld 8, .ptr 0 0, .ptr 1 0, .ptr 2 0] [bS N P Q', bX N a b, bU N, some ⟨.ro, scs (2 ^ N) g⟩, some ⟨.ro, scs (2 ^ N) h⟩, rob Lf N, rob Rf N, rob us N, some ⟨.loop r, tm⟩, A 0 0 0, B 0, C 0, E 0, E 1, E 2, E 3, E 4, E 5, E 6, E 7, E 8, E 9, E 10, E 11, E 12, E 13, E 14, E 15, E 16, E 17, E 18, E 19, E 20, E 21, E 22, E 23] Q := by
  have hp : 2 ^ N ≤ 2 ^ 10 := Nat.pow_le_pow_right (by decide) hN
  have hp0 : 0 < 2 ^ N := Nat.two_pow_pos N
  have hfits := fits_dv (G := G) hG P Q' a b N hN (.grow 4) (.grow 4) us hus hz (fun v k => v = .int .i64 0 ∧ k = [rob us N, none, none, none, none]) ⟨rfl, rfl⟩
  have hft : ∀ f, (∀ j, j < 36 → f j = j) → bfit f (bS N P Q') (bS N P Q') := fun f hf => by
    unfold bS
    exact bfit_same (by simp only [rens_append, lc_rens, rens, ren, hf 3 (by decide), hf 4 (by decide)])
  have hft2 : ∀ f, (∀ j, j < 36 → f j = j) → bfit f (bX N a b) (bX N a b) := fun f hf => by
    unfold bX
    exact bfit_same (by simp only [rens_append, lc_rens, rens, dv_ren, hf 5 (by decide), hf 6 (by decide)])
  have hft3 : ∀ f, (∀ j, j < 36 → f j = j) → bfit f (bU N) (bU N) := fun f hf => by
    unfold bU
    exact bfit_same (by simp only [rens, dv_ren, hf 7 (by decide)])
  have hlp : ∀ f : Nat → Nat, (∀ j, j < 36 → f j = j) → bfit f (some ⟨.loop r, tm⟩) (some ⟨.loop r, tm⟩) := fun f hf => ⟨.inl rfl, htm f hf⟩
  refine vcall_body Tryd.func60 nm60 code60 nt60 ?_
  unfold bS bX bU
  refine run_driveS 80 ?_
  simp only [go_sem, v60, v60_0]
  refine run_call' rfl ?_
  simp only [go_sem, calV]
  refine vcall_at hfits [7, 3, 4, 5, 6] (by simp) ?_ ?_ ?_ ?_
  · refine hfit_cons rfl ?_ (hfit_cons rfl ?_ (hfit_cons rfl ?_ (hfit_cons rfl ?_ (hfit_cons rfl ?_ hfit_nil))))
    all_goals first | trivial | exact bfit_rob | (simp only [go_sem, bfit, lc_fit, scs_fit, fit, ren, gmap, lw_plain, true_or, or_true])
  · simp [uniq, wrB]
  · simp only [rens, ren, gmap, stL_ren, arL_ren, dv_ren, stL, arL, rens_append, lc_rens]
  · rintro v k ⟨rfl, rfl⟩
    rw [puts_keep (by intro x hx; simp only [List.mem_cons, List.mem_nil_iff, or_false] at hx; rcases hx with e | e | e | e | e <;> subst e <;> first | rfl | exact wrB_rob ..) rfl]
    refine run_driveS 80 ?_
    simp only [go_sem, eq_int, decide_true]
    refine run_cond_f (by rfl) ?_
    refine run_driveS 80 ?_
    simp only [go_sem, v60_1, v60_2, v60_10]
    have loop : ∀ j t, t + j = N → Inn t → ∀ c d, CapOk c (2 ^ (N - t)) → CapOk d (2 ^ (N - t)) → RunM Tryd.prog G 60 36 {} Q ([TI.l v60_9, TI.b 0], ⟨tm60e t, hd1e us g h Lf Rf N P Q' a b r tm A B C E t c d⟩) := by
      intro j
      induction j with
      | zero => exact fun t ht hI c d hc hd => stepE1 us g h Lf Rf N P Q' a b r tm A B C E hG hN hus hz hg hh hL hR hP hQ' htm hA hB hC hA0 hE Q Fs Inn hY hQ1 hQ2 t c d (by omega) hI hc hd (.inr rfl) (.inr rfl) (fun h _ => absurd h (by omega))
      | succ j ih => exact fun t ht hI c d hc hd => stepE1 us g h Lf Rf N P Q' a b r tm A B C E hG hN hus hz hg hh hL hR hP hQ' htm hA hB hC hA0 hE Q Fs Inn hY hQ1 hQ2 t c d (by omega) hI hc hd (.inr rfl) (.inr rfl) (fun h hI => ih (t + 1) (by omega) hI _ _ (.inr ⟨_, rfl, Nat.le_refl _⟩) (.inr ⟨_, rfl, Nat.le_refl _⟩))
    refine run_rename [0, 1, 2, 3, 4, 5, 6, 7, 8, 9, 10, 11, 12, 13, 14, 15, 16, 17, 18, 19, 20, 21, 22, 23, 24, 25, 26, 27, 28, 29, 30, 31, 32, 33, 34, 35, 36, 37, 38, 39, 40] rfl (by simp) ?_ ?_ ?_ (stepE0 us g h Lf Rf N P Q' a b r tm A B C E hG hN hus hz hg hh hL hR hP hQ' htm hA hB hC hA0 hE Q Fs Inn hY hQ1 hQ2 0 (.grow 4) (.grow 4) (Nat.zero_le _) hI0 (.inl rfl) (.inl rfl) (.inl rfl) (.inl rfl) (fun h hI => loop (N - 1) 1 (by omega) hI _ _ (.inr ⟨_, rfl, Nat.le_refl _⟩) (.inr ⟨_, rfl, Nat.le_refl _⟩)))
    · unfold hd0e
      refine hfit_cons rfl (hft _ (fun j hj => gmap_e17' hj)) (hfit_cons rfl (hft2 _ (fun j hj => gmap_e17' hj)) (hfit_cons rfl (hft3 _ (fun j hj => gmap_e17' hj)) (hfit_cons rfl (bfit_same (scs_rens ..)) (hfit_cons rfl (bfit_same (scs_rens ..)) (hfit_cons rfl bfit_rob (hfit_cons rfl bfit_rob (hfit_cons rfl bfit_rob (hfit_cons rfl (hlp _ (fun j hj => gmap_e17' hj)) (hfit_cons rfl ?_ (hfit_cons rfl (hB _ _) (hfit_cons rfl (hC _ _) (hfit_cons rfl (hE 0 _ (fun j hj => gmap_e17' hj)) (hfit_cons rfl (hE 1 _ (fun j hj => gmap_e17' hj)) (hfit_cons rfl (hE 2 _ (fun j hj => gmap_e17' hj)) (hfit_cons rfl (hE 3 _ (fun j hj => gmap_e17' hj)) (hfit_cons rfl (hE 4 _ (fun j hj => gmap_e17' hj)) (hfit_cons rfl (hE 5 _ (fun j hj => gmap_e17' hj)) (hfit_cons rfl (hE 6 _ (fun j hj => gmap_e17' hj)) (hfit_cons rfl (hE 7 _ (fun j hj => gmap_e17' hj)) (hfit_cons rfl (hE 8 _ (fun j hj => gmap_e17' hj)) (hfit_cons rfl (hE 9 _ (fun j hj => gmap_e17' hj)) (hfit_cons rfl (hE 10 _ (fun j hj => gmap_e17' hj)) (hfit_cons rfl (hE 11 _ (fun j hj => gmap_e17' hj)) (hfit_cons rfl (hE 12 _ (fun j hj => gmap_e17' hj)) (hfit_cons rfl (hE 13 _ (fun j hj => gmap_e17' hj)) (hfit_cons rfl (hE 14 _ (fun j hj => gmap_e17' hj)) (hfit_cons rfl (hE 15 _ (fun j hj => gmap_e17' hj)) (hfit_cons rfl (hE 16 _ (fun j hj => gmap_e17' hj)) (hfit_cons rfl (hE 17 _ (fun j hj => gmap_e17' hj)) (hfit_cons rfl (hE 18 _ (fun j hj => gmap_e17' hj)) (hfit_cons rfl (hE 19 _ (fun j hj => gmap_e17' hj)) (hfit_cons rfl (hE 20 _ (fun j hj => gmap_e17' hj)) (hfit_cons rfl (hE 21 _ (fun j hj => gmap_e17' hj)) (hfit_cons rfl (hE 22 _ (fun j hj => gmap_e17' hj)) (hfit_cons rfl (hE 23 _ (fun j hj => gmap_e17' hj)) (hfit_cons rfl (bfit_st2 rfl rfl) ?_))))))))))))))))))))))))))))))))))))
      · have := hA (gmap [0, 1, 2, 3, 4, 5, 6, 7, 8, 9, 10, 11, 12, 13, 14, 15, 16, 17, 18, 19, 20, 21, 22, 23, 24, 25, 26, 27, 28, 29, 30, 31, 32, 33, 34, 35, 36, 37, 38, 39, 40] 37) 0 39 40
        rw [hA0 (gmap _ _ 39)] at this
        exact this
      · skip
        exact hfit_cons_none (hfit_cons_none (hfit_cons_none (hfit_cons_none hfit_nil)))
    · exact uniq_nodup (by decide)
    · unfold tm60e
      simp only [go_sem, hfit, lc_fit, scs_fit, fit, ren, gmap, lw_plain, true_or, or_true]
end
end
section
attribute [local go_sem ↓] lc_len lc_take lc_drop lc_known lc_one lc_rens lc_cells lw_known lw_agg lw_asG scs_known scs_one scs_len lc_take_add lc_drop_add lenO_dv dv_known dv_one dv_ren
attribute [local go_sem] lt_nat lt_natl lt_lnat lt_ll bool_tf bool_ft yld_known
set_option maxRecDepth 100000
set_option maxHeartbeats 2000000
theorem pf1_mods (P L R U : Nat) : pf1 (P % ell) (L % ell) (R % ell) (U % ell) = pf1 P L R U := by
  unfold pf1
  rw [linv_mod']
  have h1 : L % ell * (U % ell * (U % ell) % ell) % ell = L * (U * U % ell) % ell := by
    rw [Nat.mod_mul_mod, ← Nat.mul_mod U U ell]
  rw [h1, Nat.mod_mul_mod, Nat.add_mod_mod (L * (U * U % ell) % ell) P ell]
theorem Ps_mods (us L R : Nat → Nat) (P : Nat) : ∀ t, Ps (fun j => us j % ell) (fun j => L j % ell) (fun j => R j % ell) (P % ell) t = Ps us L R P t % ell
  | 0 => rfl
  | t + 1 => by rw [Ps, Ps_mods us L R P t, pf1_mods, Ps, Nat.mod_eq_of_lt (pf1_lt ..)]
theorem fe_mods (x y m : Nat) (f : Nat → Nat) : fe (x % ell) (y % ell) m (fun j => f j % ell) = fun j => fe x y m f j % ell := by
  funext j
  unfold fe
  rw [← Nat.mul_mod, ← Nat.mul_mod, Nat.mod_mod]
theorem Gs_mods (us g : Nat → Nat) (N : Nat) : ∀ t, Gs (fun j => us j % ell) (fun j => g j % ell) N t = fun j => Gs us g N t j % ell
  | 0 => rfl
  | t + 1 => by
    rw [Gs, Gs_mods us g N t, Gs, ← fe_mods, linv_mod', Nat.mod_eq_of_lt (linv_lt (us t))]
theorem Hs_mods (us g : Nat → Nat) (N : Nat) : ∀ t, Hs (fun j => us j % ell) (fun j => g j % ell) N t = fun j => Hs us g N t j % ell
  | 0 => rfl
  | t + 1 => by
    rw [Hs, Hs_mods us g N t, Hs, ← fe_mods, linv_mod', Nat.mod_eq_of_lt (linv_lt (us t))]
theorem runM_tmps {P : Program} {f : FuncId} {n : Nat} {md : Md} {Q : V → Heap → Prop} {k : List TI} {l m : List V} {H : Heap} (ht : forg l m) (h : RunM P G f n md Q (k, ⟨l, H⟩)) : RunM P G f n md Q (k, ⟨m, H⟩) := by
  intro ρ₀ h₀ w₀ ρ a w hn hk hsim htr hd
  obtain ⟨e1, e2⟩ := forg_get ht
  exact h ρ₀ h₀ w₀ ρ a w hn hk hsim ⟨by rw [← htr.1]; exact e1, fun t v hv hne => htr.2 t _ (e2 t v hv hne) hne⟩ hd
def p4 (t : Nat) : Nat := 14 + 2 * t
def q4 (t : Nat) : Nat := 15 + 2 * t
section
variable (us g h Lf Rf : Nat → Nat) (N P Q' : Nat) (c : Cap)
noncomputable def E4 : Nat → Option Blk
  | 0 => some ⟨.ro, [.sl 13 0 (N + 1) c]⟩
  | 1 => some ⟨.ro, wts (fun j => us j % ell) (fun j => Lf j % ell) (fun j => Rf j % ell) N (P % ell) (Q' % ell) p4 q4 (N + 1)⟩
  | 2 => some ⟨.ro, ers (2 ^ N) fun j => g j % ell⟩
  | 3 => some ⟨.ro, ers (2 ^ N) fun j => h j % ell⟩
  | j + 4 => DE (fun j => us j % ell) (fun j => g j % ell) (fun j => h j % ell) N N j
theorem E4_fit (hN : N ≤ 10) (i : Nat) (f : Nat → Nat) (hf : ∀ j, j < 36 → f j = j) : bfit f (E4 us g h Lf Rf N P Q' c i) (E4 us g h Lf Rf N P Q' c i) := by
  match i with
  | 0 => exact bfit_g (by simp only [rens, ren, hf 13 (by decide)])
  | 1 => exact bfit_g (wts_ren _ _ _ _ _ _ _ _ _ _ _ _ (fun t ht => hf _ (by unfold p4; omega)) (fun t ht => hf _ (by unfold q4; omega)))
  | 2 => exact bfit_g (ers_rens ..)
  | 3 => exact bfit_g (ers_rens ..)
  | j + 4 => exact DE_fit
theorem E4_G (t : Nat) (ht : t ≤ N) : E4 us g h Lf Rf N P Q' c (2 + 2 * t) = some ⟨.ro, ers (2 ^ (N - t)) fun j => Gs us g N t j % ell⟩ := by
  cases t with
  | zero => rfl
  | succ t =>
    rw [show 2 + 2 * (t + 1) = 2 * t + 4 by omega, E4, ← Gs_mods]
    unfold DE
    rw [if_pos (by omega), if_pos (by omega), show 2 * t / 2 = t by omega]
theorem E4_H (t : Nat) (ht : t ≤ N) : E4 us g h Lf Rf N P Q' c (3 + 2 * t) = some ⟨.ro, ers (2 ^ (N - t)) fun j => Hs us h N t j % ell⟩ := by
  cases t with
  | zero => rfl
  | succ t =>
    rw [show 3 + 2 * (t + 1) = 2 * t + 1 + 4 by omega, E4, ← Hs_mods]
    unfold DE
    rw [if_pos (by omega), if_neg (by omega), show (2 * t + 1) / 2 = t by omega]
theorem eg_get (E : Nat → Option Blk) (t : Nat) (ht : t ≤ 10) (b0 b1 b2 b3 b4 b5 b6 b7 b8 b9 b10 b11 b12 b13 : Option Blk) (X : Heap) : (b0 :: b1 :: b2 :: b3 :: b4 :: b5 :: b6 :: b7 :: b8 :: b9 :: b10 :: b11 :: b12 :: b13 :: E 2 :: E 3 :: E 4 :: E 5 :: E 6 :: E 7 :: E 8 :: E 9 :: E 10 :: E 11 :: E 12 :: E 13 :: E 14 :: E 15 :: E 16 :: E 17 :: E 18 :: E 19 :: E 20 :: E 21 :: E 22 :: E 23 :: X)[14 + 2 * t]? = some (E (2 + 2 * t)) := by
  match t, ht with
  | 0, _ | 1, _ | 2, _ | 3, _ | 4, _ | 5, _ | 6, _ | 7, _ | 8, _ | 9, _ | 10, _ => rfl
theorem eh_get (E : Nat → Option Blk) (t : Nat) (ht : t ≤ 10) (b0 b1 b2 b3 b4 b5 b6 b7 b8 b9 b10 b11 b12 b13 : Option Blk) (X : Heap) : (b0 :: b1 :: b2 :: b3 :: b4 :: b5 :: b6 :: b7 :: b8 :: b9 :: b10 :: b11 :: b12 :: b13 :: E 2 :: E 3 :: E 4 :: E 5 :: E 6 :: E 7 :: E 8 :: E 9 :: E 10 :: E 11 :: E 12 :: E 13 :: E 14 :: E 15 :: E 16 :: E 17 :: E 18 :: E 19 :: E 20 :: E 21 :: E 22 :: E 23 :: X)[15 + 2 * t]? = some (E (3 + 2 * t)) := by
  match t, ht with
  | 0, _ | 1, _ | 2, _ | 3, _ | 4, _ | 5, _ | 6, _ | 7, _ | 8, _ | 9, _ | 10, _ => rfl
def tm4 : List V := [.unk, .unk, .unk, .unk, .unk, .unk, .unk, .unk, .ptr 12 0, .unk, .ptr 11 0, .ptr 9 0, .ptr 10 0] ++ List.replicate 116 .unk
def A4 (t : Nat) (_ _ : Nat) : Option Blk := some ⟨.rw, [.int .i64 t]⟩
def Fs4 (r : Loop) (s : Nat) (r' : Loop) (A' B' C' : Option Blk) : Prop := 0 < s ∧ r' = { r with state := .done, pending := some (.exit 2) } ∧ A' = some ⟨.rw, [.int .i64 s]⟩ ∧ B' = some ⟨.rw, [.bool true]⟩ ∧ C' = some ⟨.rw, [.int .i64 s]⟩
theorem round4 (hN : N ≤ 10) (hg : ∀ j, g j < 115792089237316195423570985008687907853269984665640564039457584007913129639936) (hh : ∀ j, h j < 115792089237316195423570985008687907853269984665640564039457584007913129639936) (hP : P < 115792089237316195423570985008687907853269984665640564039457584007913129639936) (hQ' : Q' < 115792089237316195423570985008687907853269984665640564039457584007913129639936) (s : Nat) (hs : s ≤ N + 1) (r : Loop) (hr1 : r.state = .ready) (hr2 : r.pending = none) (hr3 : r.fn = 4) (hr4 : r.params.toList = [57]) (hr5 : cCode Tryd.prog r.assign = some v4_27) (hr6 : cCode Tryd.prog r.body = some v4_28) (t : Nat) (ht : t ≤ N) (hI : s = 0 ∨ t < s) (B0 B1 B2 B3 B4 B5 B6 B7 B12 B13 B14 B17 : Option Blk) :
    YCall Tryd.prog G 8 [stL (Ps us Lf Rf P t) Q' (.sl 42 0 (2 ^ (N - t)) (.grow 4)) (.sl 43 0 (2 ^ (N - t)) (.grow 4))]
      [B0, B1, B2, B3, B4, B5, B6, B7, some ⟨.loop r, tm4⟩, A4 t 39 40, some ⟨.rw, [.bool true]⟩, some ⟨.rw, [.int .i64 s]⟩, E4 us g h Lf Rf N P Q' c 0, E4 us g h Lf Rf N P Q' c 1, E4 us g h Lf Rf N P Q' c 2, E4 us g h Lf Rf N P Q' c 3, E4 us g h Lf Rf N P Q' c 4, E4 us g h Lf Rf N P Q' c 5, E4 us g h Lf Rf N P Q' c 6, E4 us g h Lf Rf N P Q' c 7, E4 us g h Lf Rf N P Q' c 8, E4 us g h Lf Rf N P Q' c 9, E4 us g h Lf Rf N P Q' c 10, E4 us g h Lf Rf N P Q' c 11, E4 us g h Lf Rf N P Q' c 12, E4 us g h Lf Rf N P Q' c 13, E4 us g h Lf Rf N P Q' c 14, E4 us g h Lf Rf N P Q' c 15, E4 us g h Lf Rf N P Q' c 16, E4 us g h Lf Rf N P Q' c 17, E4 us g h Lf Rf N P Q' c 18, E4 us g h Lf Rf N P Q' c 19, E4 us g h Lf Rf N P Q' c 20, E4 us g h Lf Rf N P Q' c 21, E4 us g h Lf Rf N P Q' c 22, E4 us g h Lf Rf N P Q' c 23, B12, B13, B14, none, none, B17, some ⟨.grow, scs (2 ^ (N - t)) (Gs us g N t)⟩, some ⟨.grow, scs (2 ^ (N - t)) (Hs us h N t)⟩]
      fun v h' => (v = .bool true ∧ (s = 0 ∨ t + 1 < s) ∧ ∃ X, h' = B0 :: B1 :: B2 :: B3 :: B4 :: B5 :: B6 :: B7 :: some ⟨.loop r, tm4⟩ :: A4 (t + 1) 42 43 :: some ⟨.rw, [.bool true]⟩ :: some ⟨.rw, [.int .i64 s]⟩ :: E4 us g h Lf Rf N P Q' c 0 :: E4 us g h Lf Rf N P Q' c 1 :: E4 us g h Lf Rf N P Q' c 2 :: E4 us g h Lf Rf N P Q' c 3 :: E4 us g h Lf Rf N P Q' c 4 :: E4 us g h Lf Rf N P Q' c 5 :: E4 us g h Lf Rf N P Q' c 6 :: E4 us g h Lf Rf N P Q' c 7 :: E4 us g h Lf Rf N P Q' c 8 :: E4 us g h Lf Rf N P Q' c 9 :: E4 us g h Lf Rf N P Q' c 10 :: E4 us g h Lf Rf N P Q' c 11 :: E4 us g h Lf Rf N P Q' c 12 :: E4 us g h Lf Rf N P Q' c 13 :: E4 us g h Lf Rf N P Q' c 14 :: E4 us g h Lf Rf N P Q' c 15 :: E4 us g h Lf Rf N P Q' c 16 :: E4 us g h Lf Rf N P Q' c 17 :: E4 us g h Lf Rf N P Q' c 18 :: E4 us g h Lf Rf N P Q' c 19 :: E4 us g h Lf Rf N P Q' c 20 :: E4 us g h Lf Rf N P Q' c 21 :: E4 us g h Lf Rf N P Q' c 22 :: E4 us g h Lf Rf N P Q' c 23 :: B12 :: B13 :: B14 :: none :: none :: B17 :: X) ∨
        (v = .bool false ∧ ∃ r' A' B' C' X, h' = B0 :: B1 :: B2 :: B3 :: B4 :: B5 :: B6 :: B7 :: some ⟨.loop r', tm4⟩ :: A' :: B' :: C' :: E4 us g h Lf Rf N P Q' c 0 :: E4 us g h Lf Rf N P Q' c 1 :: E4 us g h Lf Rf N P Q' c 2 :: E4 us g h Lf Rf N P Q' c 3 :: E4 us g h Lf Rf N P Q' c 4 :: E4 us g h Lf Rf N P Q' c 5 :: E4 us g h Lf Rf N P Q' c 6 :: E4 us g h Lf Rf N P Q' c 7 :: E4 us g h Lf Rf N P Q' c 8 :: E4 us g h Lf Rf N P Q' c 9 :: E4 us g h Lf Rf N P Q' c 10 :: E4 us g h Lf Rf N P Q' c 11 :: E4 us g h Lf Rf N P Q' c 12 :: E4 us g h Lf Rf N P Q' c 13 :: E4 us g h Lf Rf N P Q' c 14 :: E4 us g h Lf Rf N P Q' c 15 :: E4 us g h Lf Rf N P Q' c 16 :: E4 us g h Lf Rf N P Q' c 17 :: E4 us g h Lf Rf N P Q' c 18 :: E4 us g h Lf Rf N P Q' c 19 :: E4 us g h Lf Rf N P Q' c 20 :: E4 us g h Lf Rf N P Q' c 21 :: E4 us g h Lf Rf N P Q' c 22 :: E4 us g h Lf Rf N P Q' c 23 :: X ∧ (∀ f, bfit f A' A') ∧ (∀ f, bfit f B' B') ∧ (∀ f, bfit f C' C') ∧ Fs4 r s r' A' B' C') := by
  have hn : 2 ^ (N - t) ≤ 2 ^ 10 := Nat.pow_le_pow_right (by decide) (by omega)
  have hst := fun Q => statements_ (G := G) (2 ^ (N - t)) (by omega) (Ps us Lf Rf P t) Q' (Ps_lt hP t) hQ' (Gs us g N t) (Hs us h N t) (Gs_lt hg t) (Hs_lt hh t) (.grow 4) (.grow 4) (.grow 26) (.grow 26) Q
  have hge := eg_get (E4 us g h Lf Rf N P Q' c) t (by omega)
  have hhe := eh_get (E4 us g h Lf Rf N P Q' c) t (by omega)
  rw [E4_G us g h Lf Rf N P Q' c t ht] at hge
  rw [E4_H us g h Lf Rf N P Q' c t ht] at hhe
  have hw := wts_get (fun j => us j % ell) (fun j => Lf j % ell) (fun j => Rf j % ell) N (P % ell) (Q' % ell) p4 q4 (n := N + 1) (i := t) (by omega)
  have hwl := wts_len (fun j => us j % ell) (fun j => Lf j % ell) (fun j => Rf j % ell) N (P % ell) (Q' % ell) p4 q4 (N + 1)
  have hwst : wst (fun j => us j % ell) (fun j => Lf j % ell) (fun j => Rf j % ell) N (P % ell) (Q' % ell) p4 q4 t = ecs (Ps us Lf Rf P t % ell) ++ (ecs (Q' % ell) ++ [V.sl (p4 t) 0 (2 ^ (N - t)) (.grow 26), V.sl (q4 t) 0 (2 ^ (N - t)) (.grow 26)]) := by unfold wst; rw [Ps_mods]
  rw [hwst] at hw
  have hw4 : (ecs (Ps us Lf Rf P t % ell) ++ (ecs (Q' % ell) ++ [V.sl (p4 t) 0 (2 ^ (N - t)) (.grow 26), V.sl (q4 t) 0 (2 ^ (N - t)) (.grow 26)])).length = 54 := rfl
  have hw5 : (ecs (Ps us Lf Rf P t % ell) ++ (ecs (Q' % ell) ++ [V.sl (p4 t) 0 (2 ^ (N - t)) (.grow 26), V.sl (q4 t) 0 (2 ^ (N - t)) (.grow 26)])).all V.known = true := rfl
  have e0 : E4 us g h Lf Rf N P Q' c 0 = some ⟨.ro, [.sl 13 0 (N + 1) c]⟩ := rfl
  have e1 : E4 us g h Lf Rf N P Q' c 1 = some ⟨.ro, wts (fun j => us j % ell) (fun j => Lf j % ell) (fun j => Rf j % ell) N (P % ell) (Q' % ell) p4 q4 (N + 1)⟩ := rfl
  refine ycall_of (r := r) (tm := tm4) rfl (by rw [← Array.length_toList, hr4]; rfl) hr5 hr6 ?_
  rw [hr3, hr4]
  unfold tm4 stL A4
  have hk : IntKind.i64.wrap ((t : Int) + 1) = ((t + 1 : Nat) : Int) := by rw [wrap_i64 (by omega) (by omega)]; omega
  have hrr : (⟨.ready, none, r.fn, r.tmps, r.params, r.assign, r.body, r.defers⟩ : Loop) = r := by
    cases r
    simp only at hr1 hr2
    subst hr1 hr2
    rfl
  have k0 : (((N + 1 : Nat) : Int) < (t : Int)) = False := eq_false (by omega)
  have k1 : (((N + 1 : Nat) : Int) ≤ (t : Int)) = False := eq_false (by omega)
  have k2 : ((t : Int) < ((N + 1 : Nat) : Int)) = True := eq_true (by omega)
  simp only [putps, List.replicate, List.cons_append, List.nil_append]
  refine run_driveS 80 ?_
  simp only [go_sem, v4_27, v4_13]
  refine run_beg (i := 8) rfl hr1 ?_
  refine run_driveS 80 ?_
  simp only [go_sem, v4_28, v4_26]
  refine run_drw (by kernel_rfl) ?_
  refine drun_drive 40 (p := (_, _)) ?_
  simp only [go_sem, v4_14, e0, e1, k1, k2, hw, hwl, hw4, hw5, restore, Option.join_some, maskH, List.mapIdx_cons, List.mapIdx_nil, List.contains_cons, List.contains_nil, Bool.or_false, Bool.or_true, Bool.false_or, Bool.true_or, Nat.reduceBEq]
  refine drun_call' ?_
  simp only [go_sem, calV, restore, Option.join_some, maskH, List.mapIdx_cons, List.mapIdx_nil, List.contains_cons, List.contains_nil, Bool.or_false, Bool.or_true, Bool.false_or, Bool.true_or, Nat.reduceBEq]
  refine vcall_at (hst (fun v k => v = .bool true ∧ k = [some ⟨.ro, scs (2 ^ (N - t)) (Gs us g N t)⟩, some ⟨.ro, scs (2 ^ (N - t)) (Hs us h N t)⟩, some ⟨.ro, ers (2 ^ (N - t)) fun j => Gs us g N t j % ell⟩, some ⟨.ro, ers (2 ^ (N - t)) fun j => Hs us h N t j % ell⟩]) ⟨rfl, rfl⟩) [42, 43, 14 + 2 * t, 15 + 2 * t] ?_ ?_ ?_ ?_ ?_
  · intro x hx
    simp only [List.mem_cons, List.mem_nil_iff, or_false] at hx
    simp only [List.length_cons, List.length_nil]
    omega
  · exact hfit_cons rfl (bfit_same (scs_rens ..)) (hfit_cons rfl (bfit_same (scs_rens ..)) (hfit_cons (hge ..) (bfit_same (ers_rens ..)) (hfit_cons (hhe ..) (bfit_same (ers_rens ..)) hfit_nil)))
  · simp [uniq, wrB]
  · simp only [rens, ren, gmap, stL, stE, rens_append, lc_rens, ecs_rens, p4, q4]
  rintro v k ⟨rfl, rfl⟩
  rw [puts_ro (by simp [wrB]) rfl (by simp)]
  simp only [List.drop_succ_cons, List.drop_zero, List.length_cons, List.length_nil, List.map_nil, List.append_nil, Nat.reduceAdd, ren, rens]
  refine drun_drive 40 (p := (_, _)) ?_
  simp only [go_sem, restore, Option.join_some, maskH, List.mapIdx_cons, List.mapIdx_nil, List.contains_cons, List.contains_nil, Bool.or_false, Bool.or_true, Bool.false_or, Bool.true_or, Nat.reduceBEq]
  refine drun_end ?_
  refine run_driveS 80 ?_
  simp only [go_sem]
  refine run_cond_f (by rfl) ?_
  refine run_driveS 80 ?_
  simp only [go_sem, v4_16, v4_23]
  have z1 : scs (2 ^ (N - t)) (Gs us g N t) = scs (2 ^ (N - t)) fun j => if j < 0 then 99 else Gs us g N t j := scs_congr fun j _ => by rw [if_neg (by omega)]
  have z2 : scs (2 ^ (N - t)) (Hs us h N t) = scs (2 ^ (N - t)) fun j => if j < 0 then 98 else Hs us h N t j := scs_congr fun j _ => by rw [if_neg (by omega)]
  rw [z1, z2]
  refine runM_tmps ?_ (run_for (fun i => ⟨[.unk, .unk, .unk, .unk, .unk, .unk, .unk, .unk, .ptr 12 0, .unk, .ptr 11 0, .ptr 9 0, .ptr 10 0, .ptr 44 0, .int .i64 (i : Nat)] ++ List.replicate 114 .unk, [B0, B1, B2, B3, B4, B5, B6, B7, some ⟨.loop { r with state := .busy }, tm4⟩, some ⟨.rw, [.int .i64 t]⟩, some ⟨.rw, [.bool true]⟩, some ⟨.rw, [.int .i64 s]⟩, E4 us g h Lf Rf N P Q' c 0, E4 us g h Lf Rf N P Q' c 1, E4 us g h Lf Rf N P Q' c 2, E4 us g h Lf Rf N P Q' c 3, E4 us g h Lf Rf N P Q' c 4, E4 us g h Lf Rf N P Q' c 5, E4 us g h Lf Rf N P Q' c 6, E4 us g h Lf Rf N P Q' c 7, E4 us g h Lf Rf N P Q' c 8, E4 us g h Lf Rf N P Q' c 9, E4 us g h Lf Rf N P Q' c 10, E4 us g h Lf Rf N P Q' c 11, E4 us g h Lf Rf N P Q' c 12, E4 us g h Lf Rf N P Q' c 13, E4 us g h Lf Rf N P Q' c 14, E4 us g h Lf Rf N P Q' c 15, E4 us g h Lf Rf N P Q' c 16, E4 us g h Lf Rf N P Q' c 17, E4 us g h Lf Rf N P Q' c 18, E4 us g h Lf Rf N P Q' c 19, E4 us g h Lf Rf N P Q' c 20, E4 us g h Lf Rf N P Q' c 21, E4 us g h Lf Rf N P Q' c 22, E4 us g h Lf Rf N P Q' c 23, B12, B13, B14, none, none, B17, some ⟨.grow, scs (2 ^ (N - t)) fun j => if j < i then 99 else Gs us g N t j⟩, some ⟨.grow, scs (2 ^ (N - t)) fun j => if j < i then 98 else Hs us h N t j⟩, some ⟨.rw, lc (Ps us Lf Rf P t) ++ (lc Q' ++ [.sl 42 0 (2 ^ (N - t)) (.grow 4), .sl 43 0 (2 ^ (N - t)) (.grow 4)])⟩]⟩) (2 ^ (N - t)) (fun i hi ih => ?_) ?_)
  · simp only [go_sem, forg, true_or, or_true]
  · have h0 : ((i : Int) < ((2 ^ (N - t) : Nat) : Int)) = True := eq_true (by omega)
    have hw' : IntKind.i64.wrap ((i : Int) + 1) = ((i + 1 : Nat) : Int) := by rw [wrap_i64 (by omega) (by omega)]; omega
    have s1 := scs_set (2 ^ (N - t)) (fun j => if j < i then 99 else Gs us g N t j) (fun j => if j < i + 1 then 99 else Gs us g N t j) (i := i) (v := 99) hi (by simp) (fun j _ hj => by
      by_cases e : j < i
      · rw [if_pos e, if_pos (by omega)]
      · rw [if_neg e, if_neg (by omega)])
    have s2 := scs_set (2 ^ (N - t)) (fun j => if j < i then 98 else Hs us h N t j) (fun j => if j < i + 1 then 98 else Hs us h N t j) (i := i) (v := 98) hi (by simp) (fun j _ hj => by
      by_cases e : j < i
      · rw [if_pos e, if_pos (by omega)]
      · rw [if_neg e, if_neg (by omega)])
    have hm : i * 4 + 4 ≤ 2 ^ (N - t) * 4 := by omega
    have z99 : [V.int .u64 99, .int .u64 (nl 0), .int .u64 (nl 0), .int .u64 (nl 0)] = lc 99 := rfl
    have z98 : [V.int .u64 98, .int .u64 (nl 0), .int .u64 (nl 0), .int .u64 (nl 0)] = lc 98 := rfl
    generalize 2 ^ (N - t) = n at *
    refine run_loop_eq v4_22.eq_1 ?_
    refine run_driveS 80 ?_
    simp only [go_sem, v4_20, v4_17, h0]
    refine run_drw (by kernel_rfl) ?_
    refine drun_drive 40 (p := (_, _)) ?_
    simp only [go_sem, v4_18, h0, z99, restore, Option.join_some, maskH, List.mapIdx_cons, List.mapIdx_nil, List.contains_cons, List.contains_nil, Bool.or_false, Bool.or_true, Bool.false_or, Bool.true_or, Nat.reduceBEq]
    refine drun_call' ?_
    simp only [go_sem, calV, restore, Option.join_some, maskH, List.mapIdx_cons, List.mapIdx_nil, List.contains_cons, List.contains_nil, Bool.or_false, Bool.or_true, Bool.false_or, Bool.true_or, Nat.reduceBEq]
    refine line_ 99 ?_
    refine drun_drive 40 (p := (_, _)) ?_
    simp only [go_sem, h0, hm, s1, restore, Option.join_some, maskH, List.mapIdx_cons, List.mapIdx_nil, List.contains_cons, List.contains_nil, Bool.or_false, Bool.or_true, Bool.false_or, Bool.true_or, Nat.reduceBEq]
    refine drun_end ?_
    refine run_driveS 80 ?_
    simp only [go_sem]
    refine run_drw (by kernel_rfl) ?_
    refine drun_drive 40 (p := (_, _)) ?_
    simp only [go_sem, v4_19, h0, z98, restore, Option.join_some, maskH, List.mapIdx_cons, List.mapIdx_nil, List.contains_cons, List.contains_nil, Bool.or_false, Bool.or_true, Bool.false_or, Bool.true_or, Nat.reduceBEq]
    refine drun_call' ?_
    simp only [go_sem, calV, restore, Option.join_some, maskH, List.mapIdx_cons, List.mapIdx_nil, List.contains_cons, List.contains_nil, Bool.or_false, Bool.or_true, Bool.false_or, Bool.true_or, Nat.reduceBEq]
    refine line_ 98 ?_
    refine drun_drive 40 (p := (_, _)) ?_
    simp only [go_sem, h0, hm, s2, restore, Option.join_some, maskH, List.mapIdx_cons, List.mapIdx_nil, List.contains_cons, List.contains_nil, Bool.or_false, Bool.or_true, Bool.false_or, Bool.true_or, Nat.reduceBEq]
    refine drun_end ?_
    refine run_driveS 80 ?_
    simp only [go_sem, v4_21, hw']
    refine runM_tmps ?_ ih
    simp only [go_sem, forg, true_or, or_true]
  · have h0 : (((2 ^ (N - t) : Nat) : Int) < ((2 ^ (N - t) : Nat) : Int)) = False := eq_false (by omega)
    refine run_loop_eq v4_22.eq_1 ?_
    refine run_driveS 80 ?_
    simp only [go_sem, v4_17, h0]
    refine run_exit rfl ?_
    refine run_driveS 80 ?_
    simp only [go_sem, v4_24, v4_25, hk, eq_int]
    by_cases hts : t + 1 = s
    · refine run_cond_t (by simp only [go_sem, decide_eq_true hts]) ?_
      subst hts
      refine run_round_exit (i := 8) rfl rfl (.inr ⟨rfl, { r with state := .done, pending := some (.exit 2) }, some ⟨.rw, [.int .i64 (t + 1 : Nat)]⟩, some ⟨.rw, [.bool true]⟩, some ⟨.rw, [.int .i64 (t + 1 : Nat)]⟩, [B12, B13, B14, none, none, B17, some ⟨.grow, scs (2 ^ (N - t)) fun j => if j < 2 ^ (N - t) then 99 else Gs us g N t j⟩, some ⟨.grow, scs (2 ^ (N - t)) fun j => if j < 2 ^ (N - t) then 98 else Hs us h N t j⟩, some ⟨.rw, lc (Ps us Lf Rf P t) ++ (lc Q' ++ [.sl 42 0 (2 ^ (N - t)) (.grow 4), .sl 43 0 (2 ^ (N - t)) (.grow 4)])⟩], ?_, fun f => bfit_g rfl, fun f => bfit_g rfl, fun f => bfit_g rfl, by omega, rfl, rfl, rfl, rfl⟩)
      simp only [go_sem]
      rfl
    · refine run_cond_f (by simp only [go_sem, decide_eq_false hts]) ?_
      refine run_driveS 80 ?_
      simp only [go_sem]
      refine run_round_end (i := 8) rfl (.inl ⟨rfl, by omega, [some ⟨.grow, scs (2 ^ (N - t)) fun j => if j < 2 ^ (N - t) then 99 else Gs us g N t j⟩, some ⟨.grow, scs (2 ^ (N - t)) fun j => if j < 2 ^ (N - t) then 98 else Hs us h N t j⟩, some ⟨.rw, lc (Ps us Lf Rf P t) ++ (lc Q' ++ [.sl 42 0 (2 ^ (N - t)) (.grow 4), .sl 43 0 (2 ^ (N - t)) (.grow 4)])⟩], ?_⟩)
      simp only [go_sem, hrr]
      rfl
end
end
section
attribute [local go_sem ↓] lc_len lc_take lc_drop lc_known lc_one lc_rens lc_cells lw_known lw_agg lw_asG scs_known scs_one scs_len lc_take_add lc_drop_add lenO_dv dv_known dv_one dv_ren
attribute [local go_sem] lt_nat lt_natl lt_lnat lt_ll bool_tf bool_ft
set_option maxRecDepth 100000
set_option maxHeartbeats 2000000
theorem scs_tkr (n : Nat) (f : Nat → Nat) (r : List V) : (scs n f ++ r).take (n * 4) = scs n f := by rw [List.take_append_of_le_length (by rw [scs_len]; exact Nat.le_refl _), scs_tk]
theorem bfit_sm2 {f g : Nat → Nat} {n : Nat} {r : List V} {k : Kind} (h : ∀ f, rens f r = r) (hk : k.m = true := by rfl) : bfit g (some ⟨.ro, scs n f ++ r⟩) (some ⟨k, scs n f ++ r⟩) := bfit_same (by rw [rens_append, scs_rens, h]) hk
end
end Go.Vs.Tryd
