/- Text 5 of 6 of this claim: a machine of plain values beside the model, what the functions of the program and of the reference answer over it, and last the row and its card. -/
import Derived.Test.YthjchgboecjekaaDoorK4
import Derived.Test.YthjchgboecjekaaDoorK2
import Derived.Test.YthjchgboecjekaaDoorK1
set_option linter.unusedVariables false
set_option linter.unusedSimpArgs false
namespace Go.Vs.Tryd
open Go.Proofs
variable {G : Nat → List V}
set_option linter.unusedSimpArgs false
attribute [local go_sem] lenO_nils lenO_sl sliceAtV Int.sub_zero List.length_append List.all_append ge_iff_le gt_iff_lt Int.natCast_nonneg Int.toNat_natCast Nat.mul_one b_and_ll b_shr_ll b_mul_ll b_add_ll b_or_ll b_shl_ll pick_ll pick_lc pick_bb driveS stopV Option.isSome_some Option.isSome_none Kind.m Kind.w Kind.g look_ro look_rw look_grow drive stepV exo expo evs fillV isNil nilKind eqV eqL optA optM sliceAtV ev kn ldc stc splice appV srcV lenV setd wantV exitV rvs rv one List.length_cons List.length_nil List.cons_append List.nil_append List.append_nil List.replicate List.getD_cons_zero List.getD_cons_succ List.set_cons_zero List.set_cons_succ List.getElem?_cons_zero List.getElem?_cons_succ List.getElem?_nil List.take_succ_cons List.take_zero List.take_nil List.drop_succ_cons List.drop_zero List.drop_nil List.all_cons List.all_nil List.any_cons List.any_nil Bool.and_true Bool.true_and Bool.and_self Option.map_some Option.map_none Option.bind_some Option.some.injEq Nat.add_zero Nat.zero_add Int.toNat_zero Int.toNat_one Int.zero_add Int.add_zero if_true if_false ite_true ite_false and_true true_and and_self ne_eq not_false_eq_true not_true_eq_false decide_true decide_false Bool.false_eq_true Bool.not_true Bool.not_false beq_self_eq_true BEq.rfl Bool.not_eq_true Nat.le_refl Int.le_refl Nat.zero_le List.foldl List.map_cons List.map_nil Prod.mk.injEq Int.cast_ofNat_Int Int.zero_le_ofNat b_add_cc b_add_cl b_add_lc b_mul_cc b_mul_cl b_mul_lc b_sub_cc b_sub_cl b_sub_lc b_and_cc b_and_cl b_and_lc b_or_cc b_or_cl b_or_lc b_xor_cc b_xor_cl b_xor_lc b_andNot_cc b_andNot_cl b_andNot_lc b_shr_cc b_shr_cl b_shr_lc b_shl_cc b_shl_cl b_shl_lc b_lss b_leq b_gtr b_geq b_add_i b_sub_i b_mul_i beq_cc beq_cl beq_lc beq_ll b_quo_i b_rem_i neg_u64 wrap_i64 driveD stepD idsAt idOf maskH_nil restore_nil restore_mask List.filterMap_nil List.filterMap_cons VOp.looks VOp.makes exA cells_agg cells_int cells_bool cells_str cells_nilp cells_ptr cells_glob cells_nils cells_sl cells_nilf cells_fn cells_nili cells_ifc known_agg known_tup known_int known_bool known_str known_nilp known_ptr known_glob known_nils known_sl known_nilf known_fn known_nili known_ifc known_unk one_agg one_tup one_int one_bool one_str one_nilp one_ptr one_glob one_nils one_sl one_nilf one_fn one_nili one_ifc asK_int asN_int asB_bool asS_str asG_agg asT_tup true_or or_true false_or or_false
attribute [local go_sem_proc] Nat.reduceAdd Nat.reduceSub Nat.reduceLeDiff Nat.reduceMul Nat.reduceLT Nat.reduceEqDiff Int.reduceLT Int.reduceLE Int.reduceAdd Int.reduceSub Int.reduceMul Int.reduceToNat reduceIte reduceCtorEq Nat.reduceBEq
attribute [local go_sem ↓] lc_len lc_take lc_drop lc_known lc_one lc_rens lc_cells lw_known lw_agg lw_asG scs_known scs_one scs_len
attribute [local go_sem ↓] brow_len brow_known brow_one brow_rens bw_known bw_agg bw_cells bw_asG
attribute [local go_sem] lt_nat lt_natl lt_lnat lt_ll bool_tf bool_ft
set_option maxRecDepth 100000
set_option maxHeartbeats 4000000
theorem elem_ (o : Nat) (Q : V → Heap → Prop) (hQ : Q (.agg [.fn (.func 37) [] [.ptr 1 0], .fn (.func 38) [] [.ptr 1 0]]) [none, some ⟨.rw, [.ptr 0 o]⟩]) : VCall Tryd.prog G 26 [.ptr 0 o] [none] Q := by
  refine vcall_body Tryd.func26 nm26 code26 nt26 ?_
  refine run_driveS 80 ?_
  simp only [go_sem, v26, v26_0, v26_1]
  refine run_ret_drop Tryd.func26 res26 [0, 1] _ _ rfl (by simp) ?_ ?_ ?_ hQ
  · exact hfit_cons_none (hfit_cons rfl (bfit_g rfl) hfit_nil)
  · exact uniq_nodup (by decide)
  · simp only [go_sem, rr26, ren, rens, gmap]
theorem elem_at (i o : Nat) {h : Heap} (hi : i < h.length) {R : V → Heap → Prop} (hR : R (.agg [.fn (.func 37) [] [.ptr h.length 0], .fn (.func 38) [] [.ptr h.length 0]]) (h ++ [some ⟨.rw, [.ptr i o]⟩])) : VCall Tryd.prog G 26 [.ptr i o] h R := by
  refine vcall_at (elem_ o (fun v k => v = _ ∧ k = _) ⟨rfl, rfl⟩) [i] (by simpa using hi) (hfit_cons_none hfit_nil) (uniq_nodup (by simp)) (by simp only [rens, ren, gmap]) ?_
  rintro v k ⟨rfl, rfl⟩
  simp only [puts, wrB, Bool.false_eq_true, if_false, ren, rens, gmap, List.map_cons, List.map_nil, Option.map_some, renB, Nat.add_zero]
  exact hR
theorem numb_ (o : Nat) (Q : V → Heap → Prop) (hQ : Q (.agg [.fn (.func 41) [] [.ptr 1 0], .fn (.func 43) [] [.ptr 1 0]]) [none, some ⟨.rw, [.ptr 0 o]⟩]) : VCall Tryd.prog G 27 [.ptr 0 o] [none] Q := by
  refine vcall_body Tryd.func27 nm27 code27 nt27 ?_
  refine run_driveS 80 ?_
  simp only [go_sem, v27, v27_0, v27_1]
  refine run_ret_drop Tryd.func27 res27 [0, 1] _ _ rfl (by simp) ?_ ?_ ?_ hQ
  · exact hfit_cons_none (hfit_cons rfl (bfit_g rfl) hfit_nil)
  · exact uniq_nodup (by decide)
  · simp only [go_sem, rr27, ren, rens, gmap]
theorem numb_at (i o : Nat) {h : Heap} (hi : i < h.length) {R : V → Heap → Prop} (hR : R (.agg [.fn (.func 41) [] [.ptr h.length 0], .fn (.func 43) [] [.ptr h.length 0]]) (h ++ [some ⟨.rw, [.ptr i o]⟩])) : VCall Tryd.prog G 27 [.ptr i o] h R := by
  refine vcall_at (numb_ o (fun v k => v = _ ∧ k = _) ⟨rfl, rfl⟩) [i] (by simpa using hi) (hfit_cons_none hfit_nil) (uniq_nodup (by simp)) (by simp only [rens, ren, gmap]) ?_
  rintro v k ⟨rfl, rfl⟩
  simp only [puts, wrB, Bool.false_eq_true, if_false, ren, rens, gmap, List.map_cons, List.map_nil, Option.map_some, renB, Nat.add_zero]
  exact hR
def pc (v : Nat → Nat) (l r : V) : List V := scs 11 v ++ (l :: r :: scs 2 fun j => v (11 + j))
theorem pc_len (v : Nat → Nat) (l r : V) : (pc v l r).length = 54 := rfl
theorem pc_l (v : Nat → Nat) (l r : V) : ((pc v l r).drop 44).take 1 = [l] := rfl
theorem pc_r (v : Nat → Nat) (l r : V) : ((pc v l r).drop 45).take 1 = [r] := rfl
def tgt (k j : Nat) : V := if j < 11 then .ptr 0 (4 * j) else if j < 11 + 2 * k then (if (j - 11) % 2 = 0 then .ptr 1 (4 * ((j - 11) / 2)) else .ptr 2 (4 * ((j - 11) / 2))) else .ptr 0 (46 + 4 * (j - 11 - 2 * k))
def isE (k j : Nat) : Prop := j < 8 ∨ (11 ≤ j ∧ j < 11 + 2 * k)
instance (k j : Nat) : Decidable (isE k j) := inferInstanceAs (Decidable (_ ∨ _))
def fcell (k : Nat) (b : Nat → Nat) (j : Nat) : List V := if isE k j then [.fn (.func 37) [] [.ptr (b j) 0], .fn (.func 38) [] [.ptr (b j) 0]] else [.fn (.func 41) [] [.ptr (b j) 0], .fn (.func 43) [] [.ptr (b j) 0]]
def frow (k : Nat) (b : Nat → Nat) (n : Nat) : List V := row n (fcell k b)
theorem fcell_e {k j : Nat} (b : Nat → Nat) (h : isE k j) : fcell k b j = [.fn (.func 37) [] [.ptr (b j) 0], .fn (.func 38) [] [.ptr (b j) 0]] := if_pos h
theorem fcell_n {k j : Nat} (b : Nat → Nat) (h : ¬ isE k j) : fcell k b j = [.fn (.func 41) [] [.ptr (b j) 0], .fn (.func 43) [] [.ptr (b j) 0]] := if_neg h
theorem fcell_len (k : Nat) (b : Nat → Nat) (j : Nat) : (fcell k b j).length = 2 := by unfold fcell; split <;> rfl
theorem fcell_known (k : Nat) (b : Nat → Nat) (j : Nat) : (fcell k b j).all V.known = true := by unfold fcell; split <;> rfl
theorem fcell_one (k : Nat) (b : Nat → Nat) (j : Nat) : (fcell k b j).all V.one = true := by unfold fcell; split <;> rfl
theorem fcell_ren (k : Nat) (b : Nat → Nat) (f : Nat → Nat) (j : Nat) : rens f (fcell k b j) = fcell k (fun j => f (b j)) j := by unfold fcell; split <;> simp only [rens, ren]
theorem frow_len (k : Nat) (b : Nat → Nat) (n : Nat) : (frow k b n).length = n * 2 := row_len (fcell_len k b) n
theorem frow_known (k : Nat) (b : Nat → Nat) (n : Nat) : (frow k b n).all V.known = true := row_all (fcell_known k b) n
theorem frow_one (k : Nat) (b : Nat → Nat) (n : Nat) : (frow k b n).all V.one = true := row_all (fcell_one k b) n
theorem frow_take (k : Nat) (b : Nat → Nat) (n : Nat) : (frow k b n).take (n * 2) = frow k b n := List.take_of_length_le (by rw [frow_len]; exact Nat.le_refl _)
theorem frow_get (k : Nat) (b : Nat → Nat) {n i : Nat} (h : i < n) : ((frow k b n).drop (i * 2)).take 2 = fcell k b i := row_get' (fcell_len k b) h
theorem frow_ren (k : Nat) (b b' : Nat → Nat) (f : Nat → Nat) (n : Nat) (h : ∀ j, j < n → f (b j) = b' j) : rens f (frow k b n) = frow k b' n := by
  unfold frow
  rw [rens_row]
  refine row_congr fun j hj => ?_
  rw [fcell_ren]
  unfold fcell
  simp only [h j hj]
def BX (k c j : Nat) : Option Blk := if j < c then some ⟨.rw, [tgt k j]⟩ else none
theorem tgt_ren (k j : Nat) (f : Nat → Nat) (h0 : f 0 = 0) (h1 : f 1 = 1) (h2 : f 2 = 2) : ren f (tgt k j) = tgt k j := by
  unfold tgt
  split
  · rw [ren, h0]
  · split
    · split
      · rw [ren, h1]
      · rw [ren, h2]
    · rw [ren, h0]
theorem BX_keep {k c d j : Nat} {f : Nat → Nat} (h0 : f 0 = 0) (h1 : f 1 = 1) (h2 : f 2 = 2) (h : (j < c) = (j < d)) : bfit f (BX k c j) (BX k d j) := by
  have h' : j < c ↔ j < d := by rw [h]
  unfold BX
  by_cases hc : j < c
  · rw [if_pos hc, if_pos (h'.1 hc)]
    exact bfit_g (by rw [rens, rens, tgt_ren k j f h0 h1 h2])
  · rw [if_neg hc]
    trivial
theorem BX_new {k c j i o : Nat} {f : Nat → Nat} (hj : j < c) (ht : tgt k j = .ptr i o) (hi : f i = i) : bfit f (BX k c j) (some ⟨.rw, [.ptr i o]⟩) := by
  unfold BX
  rw [if_pos hj, ht]
  exact bfit_g (by rw [rens, rens, ren, hi])
theorem hfit_off {f : Nat → Nat} {h : Heap} {k c j i : Nat} {μ : List Nat} {h' : Heap} (hj : ¬ j < c) (hr : hfit f h μ h') : hfit f h (i :: μ) (BX k c j :: h') := by
  unfold BX
  rw [if_neg hj]
  exact hfit_cons_none hr
def b4 (j : Nat) : Nat := 4 + j
section
variable (v : Nat → Nat) (k : Nat) (l r : V) (L R : Option Blk)
def tm15 (i : Nat) (c : Cap) : List V := [.ptr 0 0, .unk, .unk, .sl 3 0 (11 + 2 * i) c] ++ List.replicate 50 .unk ++ [.int .i64 k, .int .i64 i] ++ List.replicate 31 .unk
def hp15 (i : Nat) (kd : Kind) : Heap := [some ⟨.ro, pc v l r⟩, L, R, some ⟨kd, frow k b4 (11 + 2 * i)⟩, BX k (11 + 2 * i) 0, BX k (11 + 2 * i) 1, BX k (11 + 2 * i) 2, BX k (11 + 2 * i) 3, BX k (11 + 2 * i) 4, BX k (11 + 2 * i) 5, BX k (11 + 2 * i) 6, BX k (11 + 2 * i) 7, BX k (11 + 2 * i) 8, BX k (11 + 2 * i) 9, BX k (11 + 2 * i) 10, BX k (11 + 2 * i) 11, BX k (11 + 2 * i) 12, BX k (11 + 2 * i) 13, BX k (11 + 2 * i) 14, BX k (11 + 2 * i) 15, BX k (11 + 2 * i) 16, BX k (11 + 2 * i) 17, BX k (11 + 2 * i) 18, BX k (11 + 2 * i) 19, BX k (11 + 2 * i) 20, BX k (11 + 2 * i) 21, BX k (11 + 2 * i) 22, BX k (11 + 2 * i) 23, BX k (11 + 2 * i) 24, BX k (11 + 2 * i) 25, BX k (11 + 2 * i) 26, BX k (11 + 2 * i) 27, BX k (11 + 2 * i) 28, BX k (11 + 2 * i) 29, BX k (11 + 2 * i) 30, BX k (11 + 2 * i) 31, BX k (11 + 2 * i) 32]
theorem pc_fit (hlr : ∀ f : Nat → Nat, f 1 = 1 → ren f l = l) (hrr : ∀ f : Nat → Nat, f 2 = 2 → ren f r = r) (f : Nat → Nat) (h1 : f 1 = 1) (h2 : f 2 = 2) : bfit f (some ⟨.ro, pc v l r⟩) (some ⟨.ro, pc v l r⟩) := bfit_g (by unfold pc; simp only [rens_append, scs_rens, rens, hlr f h1, hrr f h2])
theorem fl_grow (k n : Nat) (f : Nat → Nat) (he : isE k n) (he' : isE k (n + 1)) (hf : ∀ j, j < n → f (b4 j) = b4 j) (h1 : f (b4 n) = 37) (h2 : f (b4 (n + 1)) = 38) : rens f (frow k b4 (n + 2)) = frow k b4 n ++ [.fn (.func 37) [] [.ptr 37 0], .fn (.func 38) [] [.ptr 37 0], .fn (.func 37) [] [.ptr 38 0], .fn (.func 38) [] [.ptr 38 0]] := by
  show rens f (row n (fcell k b4) ++ fcell k b4 n ++ fcell k b4 (n + 1)) = _
  have := frow_ren k b4 b4 f n hf
  unfold frow at this
  rw [rens_append, rens_append, this, fcell_ren, fcell_ren, fcell_e _ he, fcell_e _ he', h1, h2, List.append_assoc]
  rfl
theorem tgt_l {k : Nat} (i : Nat) (hi : i < k) : tgt k (11 + 2 * i) = .ptr 1 (4 * i) := by
  unfold tgt
  rw [if_neg (by omega), if_pos (by omega), if_pos (by omega), show (11 + 2 * i - 11) / 2 = i by omega]
theorem tgt_r {k : Nat} (i : Nat) (hi : i < k) : tgt k (12 + 2 * i) = .ptr 2 (4 * i) := by
  unfold tgt
  rw [if_neg (by omega), if_pos (by omega), if_neg (by omega), show (12 + 2 * i - 11) / 2 = i by omega]
theorem gmap_mid {L a j : Nat} {rest : List Nat} (n : Nat) {μ : List Nat} (e : μ = [0, 1, 2, a] ++ ((List.range n).map b4 ++ rest)) (hj : j < n) : gmap μ L (b4 j) = b4 j := gmap_lt (by
  rw [e, show b4 j = [0, 1, 2, a].length + j from rfl, List.getElem?_append_right (by simp), Nat.add_sub_cancel_left, List.getElem?_append_left (by simpa using hj), List.getElem?_map, List.getElem?_range hj]
  rfl)
theorem f15_next {Q : V → Heap → Prop} {K : List TI} (hlr : ∀ f : Nat → Nat, f 1 = 1 → ren f l = l) (hrr : ∀ f : Nat → Nat, f 2 = 2 → ren f r = r) (hLf : ∀ f, bfit f L L) (hRf : ∀ f, bfit f R R) (hk : k ≤ 10) (i : Nat) (hi : i < k) (tm : List V) (O X : Option Blk) (ht : ∀ f : Nat → Nat, f 0 = 0 → f 3 = 40 → fit f (tm15 k (i + 1) (.grow 2)) tm)
    (ih : Run Tryd.prog G 15 3 Q (K, ⟨tm15 k (i + 1) (.grow 2), hp15 v k l r L R (i + 1) .grow⟩)) :
    Run Tryd.prog G 15 3 Q (K, ⟨tm, [some ⟨.ro, pc v l r⟩, L, R, O, BX k (11 + 2 * i) 0, BX k (11 + 2 * i) 1, BX k (11 + 2 * i) 2, BX k (11 + 2 * i) 3, BX k (11 + 2 * i) 4, BX k (11 + 2 * i) 5, BX k (11 + 2 * i) 6, BX k (11 + 2 * i) 7, BX k (11 + 2 * i) 8, BX k (11 + 2 * i) 9, BX k (11 + 2 * i) 10, BX k (11 + 2 * i) 11, BX k (11 + 2 * i) 12, BX k (11 + 2 * i) 13, BX k (11 + 2 * i) 14, BX k (11 + 2 * i) 15, BX k (11 + 2 * i) 16, BX k (11 + 2 * i) 17, BX k (11 + 2 * i) 18, BX k (11 + 2 * i) 19, BX k (11 + 2 * i) 20, BX k (11 + 2 * i) 21, BX k (11 + 2 * i) 22, BX k (11 + 2 * i) 23, BX k (11 + 2 * i) 24, BX k (11 + 2 * i) 25, BX k (11 + 2 * i) 26, BX k (11 + 2 * i) 27, BX k (11 + 2 * i) 28, BX k (11 + 2 * i) 29, BX k (11 + 2 * i) 30, BX k (11 + 2 * i) 31, BX k (11 + 2 * i) 32, some ⟨.rw, [.ptr 1 (4 * i)]⟩, some ⟨.rw, [.ptr 2 (4 * i)]⟩, X, some ⟨.grow, frow k b4 (11 + 2 * i) ++ [.fn (.func 37) [] [.ptr 37 0], .fn (.func 38) [] [.ptr 37 0], .fn (.func 37) [] [.ptr 38 0], .fn (.func 38) [] [.ptr 38 0]]⟩]⟩) := by
  unfold hp15 at ih
  obtain rfl | rfl | rfl | rfl | rfl | rfl | rfl | rfl | rfl | rfl : i = 0 ∨ i = 1 ∨ i = 2 ∨ i = 3 ∨ i = 4 ∨ i = 5 ∨ i = 6 ∨ i = 7 ∨ i = 8 ∨ i = 9 := by omega
  · exact run_rename [0, 1, 2, 40, 4, 5, 6, 7, 8, 9, 10, 11, 12, 13, 14, 37, 38, 17, 18, 19, 20, 21, 22, 23, 24, 25, 26, 27, 28, 29, 30, 31, 32, 33, 34, 35, 36] rfl (by simp) (hfit_cons rfl (pc_fit v l r hlr hrr _ rfl rfl) (hfit_cons rfl (hLf _) (hfit_cons rfl (hRf _) (hfit_cons rfl (bfit_rw (fl_grow k 11 _ (.inr ⟨by decide, by omega⟩) (.inr ⟨by decide, by omega⟩) (fun j hj => gmap_mid (a := 40) (rest := [37, 38, 17, 18, 19, 20, 21, 22, 23, 24, 25, 26, 27, 28, 29, 30, 31, 32, 33, 34, 35, 36]) 11 (by decide +kernel) hj) rfl rfl)) (hfit_cons rfl (BX_keep rfl rfl rfl (by decide)) (hfit_cons rfl (BX_keep rfl rfl rfl (by decide)) (hfit_cons rfl (BX_keep rfl rfl rfl (by decide)) (hfit_cons rfl (BX_keep rfl rfl rfl (by decide)) (hfit_cons rfl (BX_keep rfl rfl rfl (by decide)) (hfit_cons rfl (BX_keep rfl rfl rfl (by decide)) (hfit_cons rfl (BX_keep rfl rfl rfl (by decide)) (hfit_cons rfl (BX_keep rfl rfl rfl (by decide)) (hfit_cons rfl (BX_keep rfl rfl rfl (by decide)) (hfit_cons rfl (BX_keep rfl rfl rfl (by decide)) (hfit_cons rfl (BX_keep rfl rfl rfl (by decide)) (hfit_cons rfl (BX_new (by decide) (tgt_l 0 (by omega)) rfl) (hfit_cons rfl (BX_new (by decide) (tgt_r 0 (by omega)) rfl) (hfit_cons rfl (BX_keep rfl rfl rfl (by decide)) (hfit_cons rfl (BX_keep rfl rfl rfl (by decide)) (hfit_cons rfl (BX_keep rfl rfl rfl (by decide)) (hfit_cons rfl (BX_keep rfl rfl rfl (by decide)) (hfit_cons rfl (BX_keep rfl rfl rfl (by decide)) (hfit_cons rfl (BX_keep rfl rfl rfl (by decide)) (hfit_cons rfl (BX_keep rfl rfl rfl (by decide)) (hfit_cons rfl (BX_keep rfl rfl rfl (by decide)) (hfit_cons rfl (BX_keep rfl rfl rfl (by decide)) (hfit_cons rfl (BX_keep rfl rfl rfl (by decide)) (hfit_cons rfl (BX_keep rfl rfl rfl (by decide)) (hfit_cons rfl (BX_keep rfl rfl rfl (by decide)) (hfit_cons rfl (BX_keep rfl rfl rfl (by decide)) (hfit_cons rfl (BX_keep rfl rfl rfl (by decide)) (hfit_cons rfl (BX_keep rfl rfl rfl (by decide)) (hfit_cons rfl (BX_keep rfl rfl rfl (by decide)) (hfit_cons rfl (BX_keep rfl rfl rfl (by decide)) (hfit_cons rfl (BX_keep rfl rfl rfl (by decide)) (hfit_cons rfl (BX_keep rfl rfl rfl (by decide)) (hfit_cons rfl (BX_keep rfl rfl rfl (by decide)) hfit_nil))))))))))))))))))))))))))))))))))))) (uniq_nodup (by decide +kernel)) (ht _ rfl rfl) ih
  · exact run_rename [0, 1, 2, 40, 4, 5, 6, 7, 8, 9, 10, 11, 12, 13, 14, 15, 16, 37, 38, 19, 20, 21, 22, 23, 24, 25, 26, 27, 28, 29, 30, 31, 32, 33, 34, 35, 36] rfl (by simp) (hfit_cons rfl (pc_fit v l r hlr hrr _ rfl rfl) (hfit_cons rfl (hLf _) (hfit_cons rfl (hRf _) (hfit_cons rfl (bfit_rw (fl_grow k 13 _ (.inr ⟨by decide, by omega⟩) (.inr ⟨by decide, by omega⟩) (fun j hj => gmap_mid (a := 40) (rest := [37, 38, 19, 20, 21, 22, 23, 24, 25, 26, 27, 28, 29, 30, 31, 32, 33, 34, 35, 36]) 13 (by decide +kernel) hj) rfl rfl)) (hfit_cons rfl (BX_keep rfl rfl rfl (by decide)) (hfit_cons rfl (BX_keep rfl rfl rfl (by decide)) (hfit_cons rfl (BX_keep rfl rfl rfl (by decide)) (hfit_cons rfl (BX_keep rfl rfl rfl (by decide)) (hfit_cons rfl (BX_keep rfl rfl rfl (by decide)) (hfit_cons rfl (BX_keep rfl rfl rfl (by decide)) (hfit_cons rfl (BX_keep rfl rfl rfl (by decide)) (hfit_cons rfl (BX_keep rfl rfl rfl (by decide)) (hfit_cons rfl (BX_keep rfl rfl rfl (by decide)) (hfit_cons rfl (BX_keep rfl rfl rfl (by decide)) (hfit_cons rfl (BX_keep rfl rfl rfl (by decide)) (hfit_cons rfl (BX_keep rfl rfl rfl (by decide)) (hfit_cons rfl (BX_keep rfl rfl rfl (by decide)) (hfit_cons rfl (BX_new (by decide) (tgt_l 1 (by omega)) rfl) (hfit_cons rfl (BX_new (by decide) (tgt_r 1 (by omega)) rfl) (hfit_cons rfl (BX_keep rfl rfl rfl (by decide)) (hfit_cons rfl (BX_keep rfl rfl rfl (by decide)) (hfit_cons rfl (BX_keep rfl rfl rfl (by decide)) (hfit_cons rfl (BX_keep rfl rfl rfl (by decide)) (hfit_cons rfl (BX_keep rfl rfl rfl (by decide)) (hfit_cons rfl (BX_keep rfl rfl rfl (by decide)) (hfit_cons rfl (BX_keep rfl rfl rfl (by decide)) (hfit_cons rfl (BX_keep rfl rfl rfl (by decide)) (hfit_cons rfl (BX_keep rfl rfl rfl (by decide)) (hfit_cons rfl (BX_keep rfl rfl rfl (by decide)) (hfit_cons rfl (BX_keep rfl rfl rfl (by decide)) (hfit_cons rfl (BX_keep rfl rfl rfl (by decide)) (hfit_cons rfl (BX_keep rfl rfl rfl (by decide)) (hfit_cons rfl (BX_keep rfl rfl rfl (by decide)) (hfit_cons rfl (BX_keep rfl rfl rfl (by decide)) (hfit_cons rfl (BX_keep rfl rfl rfl (by decide)) (hfit_cons rfl (BX_keep rfl rfl rfl (by decide)) (hfit_cons rfl (BX_keep rfl rfl rfl (by decide)) hfit_nil))))))))))))))))))))))))))))))))))))) (uniq_nodup (by decide +kernel)) (ht _ rfl rfl) ih
  · exact run_rename [0, 1, 2, 40, 4, 5, 6, 7, 8, 9, 10, 11, 12, 13, 14, 15, 16, 17, 18, 37, 38, 21, 22, 23, 24, 25, 26, 27, 28, 29, 30, 31, 32, 33, 34, 35, 36] rfl (by simp) (hfit_cons rfl (pc_fit v l r hlr hrr _ rfl rfl) (hfit_cons rfl (hLf _) (hfit_cons rfl (hRf _) (hfit_cons rfl (bfit_rw (fl_grow k 15 _ (.inr ⟨by decide, by omega⟩) (.inr ⟨by decide, by omega⟩) (fun j hj => gmap_mid (a := 40) (rest := [37, 38, 21, 22, 23, 24, 25, 26, 27, 28, 29, 30, 31, 32, 33, 34, 35, 36]) 15 (by decide +kernel) hj) rfl rfl)) (hfit_cons rfl (BX_keep rfl rfl rfl (by decide)) (hfit_cons rfl (BX_keep rfl rfl rfl (by decide)) (hfit_cons rfl (BX_keep rfl rfl rfl (by decide)) (hfit_cons rfl (BX_keep rfl rfl rfl (by decide)) (hfit_cons rfl (BX_keep rfl rfl rfl (by decide)) (hfit_cons rfl (BX_keep rfl rfl rfl (by decide)) (hfit_cons rfl (BX_keep rfl rfl rfl (by decide)) (hfit_cons rfl (BX_keep rfl rfl rfl (by decide)) (hfit_cons rfl (BX_keep rfl rfl rfl (by decide)) (hfit_cons rfl (BX_keep rfl rfl rfl (by decide)) (hfit_cons rfl (BX_keep rfl rfl rfl (by decide)) (hfit_cons rfl (BX_keep rfl rfl rfl (by decide)) (hfit_cons rfl (BX_keep rfl rfl rfl (by decide)) (hfit_cons rfl (BX_keep rfl rfl rfl (by decide)) (hfit_cons rfl (BX_keep rfl rfl rfl (by decide)) (hfit_cons rfl (BX_new (by decide) (tgt_l 2 (by omega)) rfl) (hfit_cons rfl (BX_new (by decide) (tgt_r 2 (by omega)) rfl) (hfit_cons rfl (BX_keep rfl rfl rfl (by decide)) (hfit_cons rfl (BX_keep rfl rfl rfl (by decide)) (hfit_cons rfl (BX_keep rfl rfl rfl (by decide)) (hfit_cons rfl (BX_keep rfl rfl rfl (by decide)) (hfit_cons rfl (BX_keep rfl rfl rfl (by decide)) (hfit_cons rfl (BX_keep rfl rfl rfl (by decide)) (hfit_cons rfl (BX_keep rfl rfl rfl (by decide)) (hfit_cons rfl (BX_keep rfl rfl rfl (by decide)) (hfit_cons rfl (BX_keep rfl rfl rfl (by decide)) (hfit_cons rfl (BX_keep rfl rfl rfl (by decide)) (hfit_cons rfl (BX_keep rfl rfl rfl (by decide)) (hfit_cons rfl (BX_keep rfl rfl rfl (by decide)) (hfit_cons rfl (BX_keep rfl rfl rfl (by decide)) (hfit_cons rfl (BX_keep rfl rfl rfl (by decide)) (hfit_cons rfl (BX_keep rfl rfl rfl (by decide)) (hfit_cons rfl (BX_keep rfl rfl rfl (by decide)) hfit_nil))))))))))))))))))))))))))))))))))))) (uniq_nodup (by decide +kernel)) (ht _ rfl rfl) ih
  · exact run_rename [0, 1, 2, 40, 4, 5, 6, 7, 8, 9, 10, 11, 12, 13, 14, 15, 16, 17, 18, 19, 20, 37, 38, 23, 24, 25, 26, 27, 28, 29, 30, 31, 32, 33, 34, 35, 36] rfl (by simp) (hfit_cons rfl (pc_fit v l r hlr hrr _ rfl rfl) (hfit_cons rfl (hLf _) (hfit_cons rfl (hRf _) (hfit_cons rfl (bfit_rw (fl_grow k 17 _ (.inr ⟨by decide, by omega⟩) (.inr ⟨by decide, by omega⟩) (fun j hj => gmap_mid (a := 40) (rest := [37, 38, 23, 24, 25, 26, 27, 28, 29, 30, 31, 32, 33, 34, 35, 36]) 17 (by decide +kernel) hj) rfl rfl)) (hfit_cons rfl (BX_keep rfl rfl rfl (by decide)) (hfit_cons rfl (BX_keep rfl rfl rfl (by decide)) (hfit_cons rfl (BX_keep rfl rfl rfl (by decide)) (hfit_cons rfl (BX_keep rfl rfl rfl (by decide)) (hfit_cons rfl (BX_keep rfl rfl rfl (by decide)) (hfit_cons rfl (BX_keep rfl rfl rfl (by decide)) (hfit_cons rfl (BX_keep rfl rfl rfl (by decide)) (hfit_cons rfl (BX_keep rfl rfl rfl (by decide)) (hfit_cons rfl (BX_keep rfl rfl rfl (by decide)) (hfit_cons rfl (BX_keep rfl rfl rfl (by decide)) (hfit_cons rfl (BX_keep rfl rfl rfl (by decide)) (hfit_cons rfl (BX_keep rfl rfl rfl (by decide)) (hfit_cons rfl (BX_keep rfl rfl rfl (by decide)) (hfit_cons rfl (BX_keep rfl rfl rfl (by decide)) (hfit_cons rfl (BX_keep rfl rfl rfl (by decide)) (hfit_cons rfl (BX_keep rfl rfl rfl (by decide)) (hfit_cons rfl (BX_keep rfl rfl rfl (by decide)) (hfit_cons rfl (BX_new (by decide) (tgt_l 3 (by omega)) rfl) (hfit_cons rfl (BX_new (by decide) (tgt_r 3 (by omega)) rfl) (hfit_cons rfl (BX_keep rfl rfl rfl (by decide)) (hfit_cons rfl (BX_keep rfl rfl rfl (by decide)) (hfit_cons rfl (BX_keep rfl rfl rfl (by decide)) (hfit_cons rfl (BX_keep rfl rfl rfl (by decide)) (hfit_cons rfl (BX_keep rfl rfl rfl (by decide)) (hfit_cons rfl (BX_keep rfl rfl rfl (by decide)) (hfit_cons rfl (BX_keep rfl rfl rfl (by decide)) (hfit_cons rfl (BX_keep rfl rfl rfl (by decide)) (hfit_cons rfl (BX_keep rfl rfl rfl (by decide)) (hfit_cons rfl (BX_keep rfl rfl rfl (by decide)) (hfit_cons rfl (BX_keep rfl rfl rfl (by decide)) (hfit_cons rfl (BX_keep rfl rfl rfl (by decide)) (hfit_cons rfl (BX_keep rfl rfl rfl (by decide)) (hfit_cons rfl (BX_keep rfl rfl rfl (by decide)) hfit_nil))))))))))))))))))))))))))))))))))))) (uniq_nodup (by decide +kernel)) (ht _ rfl rfl) ih
  · exact run_rename [0, 1, 2, 40, 4, 5, 6, 7, 8, 9, 10, 11, 12, 13, 14, 15, 16, 17, 18, 19, 20, 21, 22, 37, 38, 25, 26, 27, 28, 29, 30, 31, 32, 33, 34, 35, 36] rfl (by simp) (hfit_cons rfl (pc_fit v l r hlr hrr _ rfl rfl) (hfit_cons rfl (hLf _) (hfit_cons rfl (hRf _) (hfit_cons rfl (bfit_rw (fl_grow k 19 _ (.inr ⟨by decide, by omega⟩) (.inr ⟨by decide, by omega⟩) (fun j hj => gmap_mid (a := 40) (rest := [37, 38, 25, 26, 27, 28, 29, 30, 31, 32, 33, 34, 35, 36]) 19 (by decide +kernel) hj) rfl rfl)) (hfit_cons rfl (BX_keep rfl rfl rfl (by decide)) (hfit_cons rfl (BX_keep rfl rfl rfl (by decide)) (hfit_cons rfl (BX_keep rfl rfl rfl (by decide)) (hfit_cons rfl (BX_keep rfl rfl rfl (by decide)) (hfit_cons rfl (BX_keep rfl rfl rfl (by decide)) (hfit_cons rfl (BX_keep rfl rfl rfl (by decide)) (hfit_cons rfl (BX_keep rfl rfl rfl (by decide)) (hfit_cons rfl (BX_keep rfl rfl rfl (by decide)) (hfit_cons rfl (BX_keep rfl rfl rfl (by decide)) (hfit_cons rfl (BX_keep rfl rfl rfl (by decide)) (hfit_cons rfl (BX_keep rfl rfl rfl (by decide)) (hfit_cons rfl (BX_keep rfl rfl rfl (by decide)) (hfit_cons rfl (BX_keep rfl rfl rfl (by decide)) (hfit_cons rfl (BX_keep rfl rfl rfl (by decide)) (hfit_cons rfl (BX_keep rfl rfl rfl (by decide)) (hfit_cons rfl (BX_keep rfl rfl rfl (by decide)) (hfit_cons rfl (BX_keep rfl rfl rfl (by decide)) (hfit_cons rfl (BX_keep rfl rfl rfl (by decide)) (hfit_cons rfl (BX_keep rfl rfl rfl (by decide)) (hfit_cons rfl (BX_new (by decide) (tgt_l 4 (by omega)) rfl) (hfit_cons rfl (BX_new (by decide) (tgt_r 4 (by omega)) rfl) (hfit_cons rfl (BX_keep rfl rfl rfl (by decide)) (hfit_cons rfl (BX_keep rfl rfl rfl (by decide)) (hfit_cons rfl (BX_keep rfl rfl rfl (by decide)) (hfit_cons rfl (BX_keep rfl rfl rfl (by decide)) (hfit_cons rfl (BX_keep rfl rfl rfl (by decide)) (hfit_cons rfl (BX_keep rfl rfl rfl (by decide)) (hfit_cons rfl (BX_keep rfl rfl rfl (by decide)) (hfit_cons rfl (BX_keep rfl rfl rfl (by decide)) (hfit_cons rfl (BX_keep rfl rfl rfl (by decide)) (hfit_cons rfl (BX_keep rfl rfl rfl (by decide)) (hfit_cons rfl (BX_keep rfl rfl rfl (by decide)) (hfit_cons rfl (BX_keep rfl rfl rfl (by decide)) hfit_nil))))))))))))))))))))))))))))))))))))) (uniq_nodup (by decide +kernel)) (ht _ rfl rfl) ih
  · exact run_rename [0, 1, 2, 40, 4, 5, 6, 7, 8, 9, 10, 11, 12, 13, 14, 15, 16, 17, 18, 19, 20, 21, 22, 23, 24, 37, 38, 27, 28, 29, 30, 31, 32, 33, 34, 35, 36] rfl (by simp) (hfit_cons rfl (pc_fit v l r hlr hrr _ rfl rfl) (hfit_cons rfl (hLf _) (hfit_cons rfl (hRf _) (hfit_cons rfl (bfit_rw (fl_grow k 21 _ (.inr ⟨by decide, by omega⟩) (.inr ⟨by decide, by omega⟩) (fun j hj => gmap_mid (a := 40) (rest := [37, 38, 27, 28, 29, 30, 31, 32, 33, 34, 35, 36]) 21 (by decide +kernel) hj) rfl rfl)) (hfit_cons rfl (BX_keep rfl rfl rfl (by decide)) (hfit_cons rfl (BX_keep rfl rfl rfl (by decide)) (hfit_cons rfl (BX_keep rfl rfl rfl (by decide)) (hfit_cons rfl (BX_keep rfl rfl rfl (by decide)) (hfit_cons rfl (BX_keep rfl rfl rfl (by decide)) (hfit_cons rfl (BX_keep rfl rfl rfl (by decide)) (hfit_cons rfl (BX_keep rfl rfl rfl (by decide)) (hfit_cons rfl (BX_keep rfl rfl rfl (by decide)) (hfit_cons rfl (BX_keep rfl rfl rfl (by decide)) (hfit_cons rfl (BX_keep rfl rfl rfl (by decide)) (hfit_cons rfl (BX_keep rfl rfl rfl (by decide)) (hfit_cons rfl (BX_keep rfl rfl rfl (by decide)) (hfit_cons rfl (BX_keep rfl rfl rfl (by decide)) (hfit_cons rfl (BX_keep rfl rfl rfl (by decide)) (hfit_cons rfl (BX_keep rfl rfl rfl (by decide)) (hfit_cons rfl (BX_keep rfl rfl rfl (by decide)) (hfit_cons rfl (BX_keep rfl rfl rfl (by decide)) (hfit_cons rfl (BX_keep rfl rfl rfl (by decide)) (hfit_cons rfl (BX_keep rfl rfl rfl (by decide)) (hfit_cons rfl (BX_keep rfl rfl rfl (by decide)) (hfit_cons rfl (BX_keep rfl rfl rfl (by decide)) (hfit_cons rfl (BX_new (by decide) (tgt_l 5 (by omega)) rfl) (hfit_cons rfl (BX_new (by decide) (tgt_r 5 (by omega)) rfl) (hfit_cons rfl (BX_keep rfl rfl rfl (by decide)) (hfit_cons rfl (BX_keep rfl rfl rfl (by decide)) (hfit_cons rfl (BX_keep rfl rfl rfl (by decide)) (hfit_cons rfl (BX_keep rfl rfl rfl (by decide)) (hfit_cons rfl (BX_keep rfl rfl rfl (by decide)) (hfit_cons rfl (BX_keep rfl rfl rfl (by decide)) (hfit_cons rfl (BX_keep rfl rfl rfl (by decide)) (hfit_cons rfl (BX_keep rfl rfl rfl (by decide)) (hfit_cons rfl (BX_keep rfl rfl rfl (by decide)) (hfit_cons rfl (BX_keep rfl rfl rfl (by decide)) hfit_nil))))))))))))))))))))))))))))))))))))) (uniq_nodup (by decide +kernel)) (ht _ rfl rfl) ih
  · exact run_rename [0, 1, 2, 40, 4, 5, 6, 7, 8, 9, 10, 11, 12, 13, 14, 15, 16, 17, 18, 19, 20, 21, 22, 23, 24, 25, 26, 37, 38, 29, 30, 31, 32, 33, 34, 35, 36] rfl (by simp) (hfit_cons rfl (pc_fit v l r hlr hrr _ rfl rfl) (hfit_cons rfl (hLf _) (hfit_cons rfl (hRf _) (hfit_cons rfl (bfit_rw (fl_grow k 23 _ (.inr ⟨by decide, by omega⟩) (.inr ⟨by decide, by omega⟩) (fun j hj => gmap_mid (a := 40) (rest := [37, 38, 29, 30, 31, 32, 33, 34, 35, 36]) 23 (by decide +kernel) hj) rfl rfl)) (hfit_cons rfl (BX_keep rfl rfl rfl (by decide)) (hfit_cons rfl (BX_keep rfl rfl rfl (by decide)) (hfit_cons rfl (BX_keep rfl rfl rfl (by decide)) (hfit_cons rfl (BX_keep rfl rfl rfl (by decide)) (hfit_cons rfl (BX_keep rfl rfl rfl (by decide)) (hfit_cons rfl (BX_keep rfl rfl rfl (by decide)) (hfit_cons rfl (BX_keep rfl rfl rfl (by decide)) (hfit_cons rfl (BX_keep rfl rfl rfl (by decide)) (hfit_cons rfl (BX_keep rfl rfl rfl (by decide)) (hfit_cons rfl (BX_keep rfl rfl rfl (by decide)) (hfit_cons rfl (BX_keep rfl rfl rfl (by decide)) (hfit_cons rfl (BX_keep rfl rfl rfl (by decide)) (hfit_cons rfl (BX_keep rfl rfl rfl (by decide)) (hfit_cons rfl (BX_keep rfl rfl rfl (by decide)) (hfit_cons rfl (BX_keep rfl rfl rfl (by decide)) (hfit_cons rfl (BX_keep rfl rfl rfl (by decide)) (hfit_cons rfl (BX_keep rfl rfl rfl (by decide)) (hfit_cons rfl (BX_keep rfl rfl rfl (by decide)) (hfit_cons rfl (BX_keep rfl rfl rfl (by decide)) (hfit_cons rfl (BX_keep rfl rfl rfl (by decide)) (hfit_cons rfl (BX_keep rfl rfl rfl (by decide)) (hfit_cons rfl (BX_keep rfl rfl rfl (by decide)) (hfit_cons rfl (BX_keep rfl rfl rfl (by decide)) (hfit_cons rfl (BX_new (by decide) (tgt_l 6 (by omega)) rfl) (hfit_cons rfl (BX_new (by decide) (tgt_r 6 (by omega)) rfl) (hfit_cons rfl (BX_keep rfl rfl rfl (by decide)) (hfit_cons rfl (BX_keep rfl rfl rfl (by decide)) (hfit_cons rfl (BX_keep rfl rfl rfl (by decide)) (hfit_cons rfl (BX_keep rfl rfl rfl (by decide)) (hfit_cons rfl (BX_keep rfl rfl rfl (by decide)) (hfit_cons rfl (BX_keep rfl rfl rfl (by decide)) (hfit_cons rfl (BX_keep rfl rfl rfl (by decide)) (hfit_cons rfl (BX_keep rfl rfl rfl (by decide)) hfit_nil))))))))))))))))))))))))))))))))))))) (uniq_nodup (by decide +kernel)) (ht _ rfl rfl) ih
  · exact run_rename [0, 1, 2, 40, 4, 5, 6, 7, 8, 9, 10, 11, 12, 13, 14, 15, 16, 17, 18, 19, 20, 21, 22, 23, 24, 25, 26, 27, 28, 37, 38, 31, 32, 33, 34, 35, 36] rfl (by simp) (hfit_cons rfl (pc_fit v l r hlr hrr _ rfl rfl) (hfit_cons rfl (hLf _) (hfit_cons rfl (hRf _) (hfit_cons rfl (bfit_rw (fl_grow k 25 _ (.inr ⟨by decide, by omega⟩) (.inr ⟨by decide, by omega⟩) (fun j hj => gmap_mid (a := 40) (rest := [37, 38, 31, 32, 33, 34, 35, 36]) 25 (by decide +kernel) hj) rfl rfl)) (hfit_cons rfl (BX_keep rfl rfl rfl (by decide)) (hfit_cons rfl (BX_keep rfl rfl rfl (by decide)) (hfit_cons rfl (BX_keep rfl rfl rfl (by decide)) (hfit_cons rfl (BX_keep rfl rfl rfl (by decide)) (hfit_cons rfl (BX_keep rfl rfl rfl (by decide)) (hfit_cons rfl (BX_keep rfl rfl rfl (by decide)) (hfit_cons rfl (BX_keep rfl rfl rfl (by decide)) (hfit_cons rfl (BX_keep rfl rfl rfl (by decide)) (hfit_cons rfl (BX_keep rfl rfl rfl (by decide)) (hfit_cons rfl (BX_keep rfl rfl rfl (by decide)) (hfit_cons rfl (BX_keep rfl rfl rfl (by decide)) (hfit_cons rfl (BX_keep rfl rfl rfl (by decide)) (hfit_cons rfl (BX_keep rfl rfl rfl (by decide)) (hfit_cons rfl (BX_keep rfl rfl rfl (by decide)) (hfit_cons rfl (BX_keep rfl rfl rfl (by decide)) (hfit_cons rfl (BX_keep rfl rfl rfl (by decide)) (hfit_cons rfl (BX_keep rfl rfl rfl (by decide)) (hfit_cons rfl (BX_keep rfl rfl rfl (by decide)) (hfit_cons rfl (BX_keep rfl rfl rfl (by decide)) (hfit_cons rfl (BX_keep rfl rfl rfl (by decide)) (hfit_cons rfl (BX_keep rfl rfl rfl (by decide)) (hfit_cons rfl (BX_keep rfl rfl rfl (by decide)) (hfit_cons rfl (BX_keep rfl rfl rfl (by decide)) (hfit_cons rfl (BX_keep rfl rfl rfl (by decide)) (hfit_cons rfl (BX_keep rfl rfl rfl (by decide)) (hfit_cons rfl (BX_new (by decide) (tgt_l 7 (by omega)) rfl) (hfit_cons rfl (BX_new (by decide) (tgt_r 7 (by omega)) rfl) (hfit_cons rfl (BX_keep rfl rfl rfl (by decide)) (hfit_cons rfl (BX_keep rfl rfl rfl (by decide)) (hfit_cons rfl (BX_keep rfl rfl rfl (by decide)) (hfit_cons rfl (BX_keep rfl rfl rfl (by decide)) (hfit_cons rfl (BX_keep rfl rfl rfl (by decide)) (hfit_cons rfl (BX_keep rfl rfl rfl (by decide)) hfit_nil))))))))))))))))))))))))))))))))))))) (uniq_nodup (by decide +kernel)) (ht _ rfl rfl) ih
  · exact run_rename [0, 1, 2, 40, 4, 5, 6, 7, 8, 9, 10, 11, 12, 13, 14, 15, 16, 17, 18, 19, 20, 21, 22, 23, 24, 25, 26, 27, 28, 29, 30, 37, 38, 33, 34, 35, 36] rfl (by simp) (hfit_cons rfl (pc_fit v l r hlr hrr _ rfl rfl) (hfit_cons rfl (hLf _) (hfit_cons rfl (hRf _) (hfit_cons rfl (bfit_rw (fl_grow k 27 _ (.inr ⟨by decide, by omega⟩) (.inr ⟨by decide, by omega⟩) (fun j hj => gmap_mid (a := 40) (rest := [37, 38, 33, 34, 35, 36]) 27 (by decide +kernel) hj) rfl rfl)) (hfit_cons rfl (BX_keep rfl rfl rfl (by decide)) (hfit_cons rfl (BX_keep rfl rfl rfl (by decide)) (hfit_cons rfl (BX_keep rfl rfl rfl (by decide)) (hfit_cons rfl (BX_keep rfl rfl rfl (by decide)) (hfit_cons rfl (BX_keep rfl rfl rfl (by decide)) (hfit_cons rfl (BX_keep rfl rfl rfl (by decide)) (hfit_cons rfl (BX_keep rfl rfl rfl (by decide)) (hfit_cons rfl (BX_keep rfl rfl rfl (by decide)) (hfit_cons rfl (BX_keep rfl rfl rfl (by decide)) (hfit_cons rfl (BX_keep rfl rfl rfl (by decide)) (hfit_cons rfl (BX_keep rfl rfl rfl (by decide)) (hfit_cons rfl (BX_keep rfl rfl rfl (by decide)) (hfit_cons rfl (BX_keep rfl rfl rfl (by decide)) (hfit_cons rfl (BX_keep rfl rfl rfl (by decide)) (hfit_cons rfl (BX_keep rfl rfl rfl (by decide)) (hfit_cons rfl (BX_keep rfl rfl rfl (by decide)) (hfit_cons rfl (BX_keep rfl rfl rfl (by decide)) (hfit_cons rfl (BX_keep rfl rfl rfl (by decide)) (hfit_cons rfl (BX_keep rfl rfl rfl (by decide)) (hfit_cons rfl (BX_keep rfl rfl rfl (by decide)) (hfit_cons rfl (BX_keep rfl rfl rfl (by decide)) (hfit_cons rfl (BX_keep rfl rfl rfl (by decide)) (hfit_cons rfl (BX_keep rfl rfl rfl (by decide)) (hfit_cons rfl (BX_keep rfl rfl rfl (by decide)) (hfit_cons rfl (BX_keep rfl rfl rfl (by decide)) (hfit_cons rfl (BX_keep rfl rfl rfl (by decide)) (hfit_cons rfl (BX_keep rfl rfl rfl (by decide)) (hfit_cons rfl (BX_new (by decide) (tgt_l 8 (by omega)) rfl) (hfit_cons rfl (BX_new (by decide) (tgt_r 8 (by omega)) rfl) (hfit_cons rfl (BX_keep rfl rfl rfl (by decide)) (hfit_cons rfl (BX_keep rfl rfl rfl (by decide)) (hfit_cons rfl (BX_keep rfl rfl rfl (by decide)) (hfit_cons rfl (BX_keep rfl rfl rfl (by decide)) hfit_nil))))))))))))))))))))))))))))))))))))) (uniq_nodup (by decide +kernel)) (ht _ rfl rfl) ih
  · exact run_rename [0, 1, 2, 40, 4, 5, 6, 7, 8, 9, 10, 11, 12, 13, 14, 15, 16, 17, 18, 19, 20, 21, 22, 23, 24, 25, 26, 27, 28, 29, 30, 31, 32, 37, 38, 35, 36] rfl (by simp) (hfit_cons rfl (pc_fit v l r hlr hrr _ rfl rfl) (hfit_cons rfl (hLf _) (hfit_cons rfl (hRf _) (hfit_cons rfl (bfit_rw (fl_grow k 29 _ (.inr ⟨by decide, by omega⟩) (.inr ⟨by decide, by omega⟩) (fun j hj => gmap_mid (a := 40) (rest := [37, 38, 35, 36]) 29 (by decide +kernel) hj) rfl rfl)) (hfit_cons rfl (BX_keep rfl rfl rfl (by decide)) (hfit_cons rfl (BX_keep rfl rfl rfl (by decide)) (hfit_cons rfl (BX_keep rfl rfl rfl (by decide)) (hfit_cons rfl (BX_keep rfl rfl rfl (by decide)) (hfit_cons rfl (BX_keep rfl rfl rfl (by decide)) (hfit_cons rfl (BX_keep rfl rfl rfl (by decide)) (hfit_cons rfl (BX_keep rfl rfl rfl (by decide)) (hfit_cons rfl (BX_keep rfl rfl rfl (by decide)) (hfit_cons rfl (BX_keep rfl rfl rfl (by decide)) (hfit_cons rfl (BX_keep rfl rfl rfl (by decide)) (hfit_cons rfl (BX_keep rfl rfl rfl (by decide)) (hfit_cons rfl (BX_keep rfl rfl rfl (by decide)) (hfit_cons rfl (BX_keep rfl rfl rfl (by decide)) (hfit_cons rfl (BX_keep rfl rfl rfl (by decide)) (hfit_cons rfl (BX_keep rfl rfl rfl (by decide)) (hfit_cons rfl (BX_keep rfl rfl rfl (by decide)) (hfit_cons rfl (BX_keep rfl rfl rfl (by decide)) (hfit_cons rfl (BX_keep rfl rfl rfl (by decide)) (hfit_cons rfl (BX_keep rfl rfl rfl (by decide)) (hfit_cons rfl (BX_keep rfl rfl rfl (by decide)) (hfit_cons rfl (BX_keep rfl rfl rfl (by decide)) (hfit_cons rfl (BX_keep rfl rfl rfl (by decide)) (hfit_cons rfl (BX_keep rfl rfl rfl (by decide)) (hfit_cons rfl (BX_keep rfl rfl rfl (by decide)) (hfit_cons rfl (BX_keep rfl rfl rfl (by decide)) (hfit_cons rfl (BX_keep rfl rfl rfl (by decide)) (hfit_cons rfl (BX_keep rfl rfl rfl (by decide)) (hfit_cons rfl (BX_keep rfl rfl rfl (by decide)) (hfit_cons rfl (BX_keep rfl rfl rfl (by decide)) (hfit_cons rfl (BX_new (by decide) (tgt_l 9 (by omega)) rfl) (hfit_cons rfl (BX_new (by decide) (tgt_r 9 (by omega)) rfl) (hfit_cons rfl (BX_keep rfl rfl rfl (by decide)) (hfit_cons rfl (BX_keep rfl rfl rfl (by decide)) hfit_nil))))))))))))))))))))))))))))))))))))) (uniq_nodup (by decide +kernel)) (ht _ rfl rfl) ih
theorem f15_loop (hk : k ≤ 10) (hl : lenO l = some k) (hr : lenO r = some k) (hlk : l.known = true) (hrk : r.known = true) (hL : 0 < k → ∃ c, l = .sl 1 0 k c) (hR : 0 < k → ∃ c, r = .sl 2 0 k c) (hlr : ∀ f : Nat → Nat, f 1 = 1 → ren f l = l) (hrr : ∀ f : Nat → Nat, f 2 = 2 → ren f r = r) (hLf : ∀ f, bfit f L L) (hRf : ∀ f, bfit f R R) {Q : V → Heap → Prop} {K : List TI}
    (hQ : ∀ kd c, (kd = .rw ∧ c = .exact (11 + 2 * k)) ∨ (kd = .grow ∧ c = .grow 2) → Run Tryd.prog G 15 3 Q (K, ⟨tm15 k k c, hp15 v k l r L R k kd⟩)) : ∀ m i kd c, i + m = k → (kd = .rw ∧ c = .exact (11 + 2 * i)) ∨ (kd = .grow ∧ c = .grow 2) →
    Run Tryd.prog G 15 3 Q (.l v15_8 :: .b 0 :: K, ⟨tm15 k i c, hp15 v k l r L R i kd⟩)
  | 0, i, kd, c, e, hc => by
    obtain rfl : i = k := by omega
    have hQ := hQ kd c hc
    have h0 : ((i : Int) < (i : Int)) = False := eq_false (by omega)
    unfold tm15 at hQ ⊢
    refine run_loop_eq v15_8.eq_1 ?_
    refine run_driveS 80 ?_
    simp only [go_sem, v15_3, h0]
    refine run_exit rfl ?_
    refine run_tmps ?_ hQ
    simp only [go_sem, forg, true_or, or_true]
  | m + 1, i, kd, c, e, hc => by
    have ih := f15_loop hk hl hr hlk hrk hL hR hlr hrr hLf hRf hQ m (i + 1) .grow (.grow 2) (by omega) (.inr ⟨rfl, rfl⟩)
    have hi : i < k := by omega
    obtain ⟨cl, rfl⟩ := hL (by omega)
    obtain ⟨cr, rfl⟩ := hR (by omega)
    have h0 : ((i : Int) < (k : Int)) = True := eq_true (by omega)
    have p1 := pc_l v (.sl 1 0 k cl) (.sl 2 0 k cr)
    have p2 := pc_r v (.sl 1 0 k cl) (.sl 2 0 k cr)
    have l1 := frow_len k b4
    have l2 := frow_known k b4
    have l3 := frow_one k b4
    have l4 := frow_take k b4
    have e4 : i * 4 = 4 * i := Nat.mul_comm i 4
    obtain ⟨N, hN⟩ : ∃ N, N = 11 + 2 * i := ⟨_, rfl⟩
    have a1 : ((N + 2) * 16 ≤ 140737488355328) = True := eq_true (by omega)
    have a2 : (N ≤ 9223372036854775805) = True := eq_true (by omega)
    have a3 : (N + 2 ≤ N) = False := eq_false (by omega)
    have a4 : N + 2 = 11 + 2 * (i + 1) := by omega
    have hw : IntKind.i64.wrap ((i : Int) + 1) = ((i + 1 : Nat) : Int) := by rw [wrap_i64 (by omega) (by omega)]; omega
    have nx := f15_next (G := G) (Q := Q) (K := .l v15_8 :: .b 0 :: K) v k (.sl 1 0 k cl) (.sl 2 0 k cr) L R hlr hrr hLf hRf (by omega) i hi
    unfold tm15 hp15
    rw [← hN] at nx hc ⊢
    refine run_loop_eq v15_8.eq_1 ?_
    refine run_driveS 80 ?_
    simp only [go_sem, v15_3, v15_6, v15_4, h0]
    refine run_drw (by kernel_rfl) ?_
    refine drun_drive 40 (p := (_, _)) ?_
    simp only [go_sem, v15_5, h0, p1, p2, e4, restore, Option.join_some, maskH, List.mapIdx_cons, List.mapIdx_nil, List.contains_cons, List.contains_nil, Bool.or_false, Bool.or_true, Bool.false_or, Bool.true_or, Nat.reduceBEq]
    refine drun_call' ?_
    simp only [go_sem, calV, restore, Option.join_some, maskH, List.mapIdx_cons, List.mapIdx_nil, List.contains_cons, List.contains_nil, Bool.or_false, Bool.or_true, Bool.false_or, Bool.true_or, Nat.reduceBEq]
    refine elem_at 1 _ (by simp) ?_
    refine drun_drive 40 (p := (_, _)) ?_
    simp only [go_sem, h0, p1, p2, e4, restore, Option.join_some, maskH, List.mapIdx_cons, List.mapIdx_nil, List.contains_cons, List.contains_nil, Bool.or_false, Bool.or_true, Bool.false_or, Bool.true_or, Nat.reduceBEq]
    refine drun_call' ?_
    simp only [go_sem, calV, restore, Option.join_some, maskH, List.mapIdx_cons, List.mapIdx_nil, List.contains_cons, List.contains_nil, Bool.or_false, Bool.or_true, Bool.false_or, Bool.true_or, Nat.reduceBEq]
    refine elem_at 2 _ (by simp) ?_
    refine drun_drive 40 (p := (_, _)) ?_
    simp only [go_sem, h0, p1, p2, e4, restore, Option.join_some, maskH, List.mapIdx_cons, List.mapIdx_nil, List.contains_cons, List.contains_nil, Bool.or_false, Bool.or_true, Bool.false_or, Bool.true_or, Nat.reduceBEq]
    rcases hc with ⟨rfl, rfl⟩ | ⟨rfl, rfl⟩
    · refine drun_drive 40 (p := (_, _)) ?_
      simp only [go_sem, a1, a2, a3, l1, l2, l3, l4, restore, Option.join_some, maskH, List.mapIdx_cons, List.mapIdx_nil, List.contains_cons, List.contains_nil, Bool.or_false, Bool.or_true, Bool.false_or, Bool.true_or, Nat.reduceBEq]
      refine drun_end ?_
      refine run_driveS 80 ?_
      simp only [go_sem, v15_7, hw]
      rw [a4]
      exact nx _ _ _ (fun f h0 h3 => by simp only [go_sem, tm15, fit, ren, h0, h3, true_or, or_true]) ih
    · refine drun_drive 40 (p := (_, _)) ?_
      simp only [go_sem, a1, a2, a3, l1, l2, l3, l4, restore, Option.join_some, maskH, List.mapIdx_cons, List.mapIdx_nil, List.contains_cons, List.contains_nil, Bool.or_false, Bool.or_true, Bool.false_or, Bool.true_or, Nat.reduceBEq]
      refine drun_end ?_
      refine run_driveS 80 ?_
      simp only [go_sem, v15_7, hw]
      rw [a4]
      exact nx _ _ _ (fun f h0 h3 => by simp only [go_sem, tm15, fit, ren, h0, h3, true_or, or_true]) ih
end
theorem fl_ini (k : Nat) (f : Nat → Nat) (hf : ∀ j, j < 11 → f (b4 j) = 3 + j) : rens f (frow k b4 11) = [.fn (.func 37) [] [.ptr 3 0], .fn (.func 38) [] [.ptr 3 0], .fn (.func 37) [] [.ptr 4 0], .fn (.func 38) [] [.ptr 4 0], .fn (.func 37) [] [.ptr 5 0], .fn (.func 38) [] [.ptr 5 0], .fn (.func 37) [] [.ptr 6 0], .fn (.func 38) [] [.ptr 6 0], .fn (.func 37) [] [.ptr 7 0], .fn (.func 38) [] [.ptr 7 0], .fn (.func 37) [] [.ptr 8 0], .fn (.func 38) [] [.ptr 8 0], .fn (.func 37) [] [.ptr 9 0], .fn (.func 38) [] [.ptr 9 0], .fn (.func 37) [] [.ptr 10 0], .fn (.func 38) [] [.ptr 10 0], .fn (.func 41) [] [.ptr 11 0], .fn (.func 43) [] [.ptr 11 0], .fn (.func 41) [] [.ptr 12 0], .fn (.func 43) [] [.ptr 12 0], .fn (.func 41) [] [.ptr 13 0], .fn (.func 43) [] [.ptr 13 0]] := by
  have e : frow k b4 11 = fcell k b4 0++ fcell k b4 1++ fcell k b4 2++ fcell k b4 3++ fcell k b4 4++ fcell k b4 5++ fcell k b4 6++ fcell k b4 7++ fcell k b4 8++ fcell k b4 9++ fcell k b4 10 := by
    unfold frow
    simp only [row, List.nil_append]
  rw [e]
  simp only [rens_append, fcell_ren]
  rw [fcell_e _ (j := 0) (by unfold isE; omega), hf 0 (by decide)]
  rw [fcell_e _ (j := 1) (by unfold isE; omega), hf 1 (by decide)]
  rw [fcell_e _ (j := 2) (by unfold isE; omega), hf 2 (by decide)]
  rw [fcell_e _ (j := 3) (by unfold isE; omega), hf 3 (by decide)]
  rw [fcell_e _ (j := 4) (by unfold isE; omega), hf 4 (by decide)]
  rw [fcell_e _ (j := 5) (by unfold isE; omega), hf 5 (by decide)]
  rw [fcell_e _ (j := 6) (by unfold isE; omega), hf 6 (by decide)]
  rw [fcell_e _ (j := 7) (by unfold isE; omega), hf 7 (by decide)]
  rw [fcell_n _ (j := 8) (by unfold isE; omega), hf 8 (by decide)]
  rw [fcell_n _ (j := 9) (by unfold isE; omega), hf 9 (by decide)]
  rw [fcell_n _ (j := 10) (by unfold isE; omega), hf 10 (by decide)]
  rfl
theorem fl_end (k n : Nat) (f : Nat → Nat) (he : ¬ isE k n) (he' : ¬ isE k (n + 1)) (hf : ∀ j, j < n → f (b4 j) = b4 j) (h1 : f (b4 n) = 37) (h2 : f (b4 (n + 1)) = 38) : rens f (frow k b4 (n + 2)) = frow k b4 n ++ [.fn (.func 41) [] [.ptr 37 0], .fn (.func 43) [] [.ptr 37 0], .fn (.func 41) [] [.ptr 38 0], .fn (.func 43) [] [.ptr 38 0]] := by
  show rens f (row n (fcell k b4) ++ fcell k b4 n ++ fcell k b4 (n + 1)) = _
  have := frow_ren k b4 b4 f n hf
  unfold frow at this
  rw [rens_append, rens_append, this, fcell_ren, fcell_ren, fcell_n _ he, fcell_n _ he', h1, h2, List.append_assoc]
  rfl
theorem tgt_k (k : Nat) : tgt k (11 + 2 * k) = .ptr 0 46 := by
  unfold tgt
  rw [if_neg (by omega), if_neg (by omega), show 46 + 4 * (11 + 2 * k - 11 - 2 * k) = 46 by omega]
theorem tgt_k1 (k : Nat) : tgt k (12 + 2 * k) = .ptr 0 50 := by
  unfold tgt
  rw [if_neg (by omega), if_neg (by omega), show 46 + 4 * (12 + 2 * k - 11 - 2 * k) = 50 by omega]
theorem tgt_0 (k j : Nat) (h : j < 11) : tgt k j = .ptr 0 (4 * j) := if_pos h
section
variable (v : Nat → Nat) (k : Nat) (l r : V) (L R : Option Blk)
theorem f15_end {Q : V → Heap → Prop} (hk : k ≤ 10) (O X : Option Blk) (tm : List V) (ht : tm[2]? = some (.sl 40 0 (13 + 2 * k) (.grow 2)))
    (hQ : Q (.sl 3 0 (13 + 2 * k) (.grow 2)) [none, none, none, some ⟨.grow, frow k b4 (13 + 2 * k)⟩, BX k (13 + 2 * k) 0, BX k (13 + 2 * k) 1, BX k (13 + 2 * k) 2, BX k (13 + 2 * k) 3, BX k (13 + 2 * k) 4, BX k (13 + 2 * k) 5, BX k (13 + 2 * k) 6, BX k (13 + 2 * k) 7, BX k (13 + 2 * k) 8, BX k (13 + 2 * k) 9, BX k (13 + 2 * k) 10, BX k (13 + 2 * k) 11, BX k (13 + 2 * k) 12, BX k (13 + 2 * k) 13, BX k (13 + 2 * k) 14, BX k (13 + 2 * k) 15, BX k (13 + 2 * k) 16, BX k (13 + 2 * k) 17, BX k (13 + 2 * k) 18, BX k (13 + 2 * k) 19, BX k (13 + 2 * k) 20, BX k (13 + 2 * k) 21, BX k (13 + 2 * k) 22, BX k (13 + 2 * k) 23, BX k (13 + 2 * k) 24, BX k (13 + 2 * k) 25, BX k (13 + 2 * k) 26, BX k (13 + 2 * k) 27, BX k (13 + 2 * k) 28, BX k (13 + 2 * k) 29, BX k (13 + 2 * k) 30, BX k (13 + 2 * k) 31, BX k (13 + 2 * k) 32]) :
    Run Tryd.prog G 15 3 Q ([.c .ret], ⟨tm, [some ⟨.ro, pc v l r⟩, L, R, O, BX k (11 + 2 * k) 0, BX k (11 + 2 * k) 1, BX k (11 + 2 * k) 2, BX k (11 + 2 * k) 3, BX k (11 + 2 * k) 4, BX k (11 + 2 * k) 5, BX k (11 + 2 * k) 6, BX k (11 + 2 * k) 7, BX k (11 + 2 * k) 8, BX k (11 + 2 * k) 9, BX k (11 + 2 * k) 10, BX k (11 + 2 * k) 11, BX k (11 + 2 * k) 12, BX k (11 + 2 * k) 13, BX k (11 + 2 * k) 14, BX k (11 + 2 * k) 15, BX k (11 + 2 * k) 16, BX k (11 + 2 * k) 17, BX k (11 + 2 * k) 18, BX k (11 + 2 * k) 19, BX k (11 + 2 * k) 20, BX k (11 + 2 * k) 21, BX k (11 + 2 * k) 22, BX k (11 + 2 * k) 23, BX k (11 + 2 * k) 24, BX k (11 + 2 * k) 25, BX k (11 + 2 * k) 26, BX k (11 + 2 * k) 27, BX k (11 + 2 * k) 28, BX k (11 + 2 * k) 29, BX k (11 + 2 * k) 30, BX k (11 + 2 * k) 31, BX k (11 + 2 * k) 32, some ⟨.rw, [.ptr 0 46]⟩, some ⟨.rw, [.ptr 0 50]⟩, X, some ⟨.grow, frow k b4 (11 + 2 * k) ++ [.fn (.func 41) [] [.ptr 37 0], .fn (.func 43) [] [.ptr 37 0], .fn (.func 41) [] [.ptr 38 0], .fn (.func 43) [] [.ptr 38 0]]⟩]⟩) := by
  obtain rfl | rfl | rfl | rfl | rfl | rfl | rfl | rfl | rfl | rfl | rfl : k = 0 ∨ k = 1 ∨ k = 2 ∨ k = 3 ∨ k = 4 ∨ k = 5 ∨ k = 6 ∨ k = 7 ∨ k = 8 ∨ k = 9 ∨ k = 10 := by omega
  · refine run_ret_drop Tryd.func15 res15 [0, 1, 2, 40, 4, 5, 6, 7, 8, 9, 10, 11, 12, 13, 14, 37, 38, 17, 18, 19, 20, 21, 22, 23, 24, 25, 26, 27, 28, 29, 30, 31, 32, 33, 34, 35, 36] _ _ rfl (by simp) ?_ ?_ ?_ hQ
    · exact hfit_cons_none (hfit_cons_none (hfit_cons_none (hfit_cons rfl (bfit_rw (fl_end 0 11 _ (by unfold isE; omega) (by unfold isE; omega) (fun j hj => gmap_mid (a := 40) (rest := [37, 38, 17, 18, 19, 20, 21, 22, 23, 24, 25, 26, 27, 28, 29, 30, 31, 32, 33, 34, 35, 36]) 11 (by decide +kernel) hj) rfl rfl)) (hfit_cons rfl (BX_keep rfl rfl rfl (by decide)) (hfit_cons rfl (BX_keep rfl rfl rfl (by decide)) (hfit_cons rfl (BX_keep rfl rfl rfl (by decide)) (hfit_cons rfl (BX_keep rfl rfl rfl (by decide)) (hfit_cons rfl (BX_keep rfl rfl rfl (by decide)) (hfit_cons rfl (BX_keep rfl rfl rfl (by decide)) (hfit_cons rfl (BX_keep rfl rfl rfl (by decide)) (hfit_cons rfl (BX_keep rfl rfl rfl (by decide)) (hfit_cons rfl (BX_keep rfl rfl rfl (by decide)) (hfit_cons rfl (BX_keep rfl rfl rfl (by decide)) (hfit_cons rfl (BX_keep rfl rfl rfl (by decide)) (hfit_cons rfl (BX_new (by decide) (tgt_k 0) rfl) (hfit_cons rfl (BX_new (by decide) (tgt_k1 0) rfl) (hfit_cons rfl (BX_keep rfl rfl rfl (by decide)) (hfit_cons rfl (BX_keep rfl rfl rfl (by decide)) (hfit_cons rfl (BX_keep rfl rfl rfl (by decide)) (hfit_cons rfl (BX_keep rfl rfl rfl (by decide)) (hfit_cons rfl (BX_keep rfl rfl rfl (by decide)) (hfit_cons rfl (BX_keep rfl rfl rfl (by decide)) (hfit_cons rfl (BX_keep rfl rfl rfl (by decide)) (hfit_cons rfl (BX_keep rfl rfl rfl (by decide)) (hfit_cons rfl (BX_keep rfl rfl rfl (by decide)) (hfit_cons rfl (BX_keep rfl rfl rfl (by decide)) (hfit_cons rfl (BX_keep rfl rfl rfl (by decide)) (hfit_cons rfl (BX_keep rfl rfl rfl (by decide)) (hfit_cons rfl (BX_keep rfl rfl rfl (by decide)) (hfit_cons rfl (BX_keep rfl rfl rfl (by decide)) (hfit_cons rfl (BX_keep rfl rfl rfl (by decide)) (hfit_cons rfl (BX_keep rfl rfl rfl (by decide)) (hfit_cons rfl (BX_keep rfl rfl rfl (by decide)) (hfit_cons rfl (BX_keep rfl rfl rfl (by decide)) (hfit_cons rfl (BX_keep rfl rfl rfl (by decide)) (hfit_cons rfl (BX_keep rfl rfl rfl (by decide)) hfit_nil))))))))))))))))))))))))))))))))))))
    · exact uniq_nodup (by decide +kernel)
    · simp only [go_sem, rr15, List.getD_eq_getElem?_getD, ht, one, Option.getD_some, Option.map_some, ren, gmap, List.getElem?_cons_zero, List.getElem?_cons_succ, List.length_cons, List.length_nil, Nat.reduceAdd, Nat.reduceMul]
  · refine run_ret_drop Tryd.func15 res15 [0, 1, 2, 40, 4, 5, 6, 7, 8, 9, 10, 11, 12, 13, 14, 15, 16, 37, 38, 19, 20, 21, 22, 23, 24, 25, 26, 27, 28, 29, 30, 31, 32, 33, 34, 35, 36] _ _ rfl (by simp) ?_ ?_ ?_ hQ
    · exact hfit_cons_none (hfit_cons_none (hfit_cons_none (hfit_cons rfl (bfit_rw (fl_end 1 13 _ (by unfold isE; omega) (by unfold isE; omega) (fun j hj => gmap_mid (a := 40) (rest := [37, 38, 19, 20, 21, 22, 23, 24, 25, 26, 27, 28, 29, 30, 31, 32, 33, 34, 35, 36]) 13 (by decide +kernel) hj) rfl rfl)) (hfit_cons rfl (BX_keep rfl rfl rfl (by decide)) (hfit_cons rfl (BX_keep rfl rfl rfl (by decide)) (hfit_cons rfl (BX_keep rfl rfl rfl (by decide)) (hfit_cons rfl (BX_keep rfl rfl rfl (by decide)) (hfit_cons rfl (BX_keep rfl rfl rfl (by decide)) (hfit_cons rfl (BX_keep rfl rfl rfl (by decide)) (hfit_cons rfl (BX_keep rfl rfl rfl (by decide)) (hfit_cons rfl (BX_keep rfl rfl rfl (by decide)) (hfit_cons rfl (BX_keep rfl rfl rfl (by decide)) (hfit_cons rfl (BX_keep rfl rfl rfl (by decide)) (hfit_cons rfl (BX_keep rfl rfl rfl (by decide)) (hfit_cons rfl (BX_keep rfl rfl rfl (by decide)) (hfit_cons rfl (BX_keep rfl rfl rfl (by decide)) (hfit_cons rfl (BX_new (by decide) (tgt_k 1) rfl) (hfit_cons rfl (BX_new (by decide) (tgt_k1 1) rfl) (hfit_cons rfl (BX_keep rfl rfl rfl (by decide)) (hfit_cons rfl (BX_keep rfl rfl rfl (by decide)) (hfit_cons rfl (BX_keep rfl rfl rfl (by decide)) (hfit_cons rfl (BX_keep rfl rfl rfl (by decide)) (hfit_cons rfl (BX_keep rfl rfl rfl (by decide)) (hfit_cons rfl (BX_keep rfl rfl rfl (by decide)) (hfit_cons rfl (BX_keep rfl rfl rfl (by decide)) (hfit_cons rfl (BX_keep rfl rfl rfl (by decide)) (hfit_cons rfl (BX_keep rfl rfl rfl (by decide)) (hfit_cons rfl (BX_keep rfl rfl rfl (by decide)) (hfit_cons rfl (BX_keep rfl rfl rfl (by decide)) (hfit_cons rfl (BX_keep rfl rfl rfl (by decide)) (hfit_cons rfl (BX_keep rfl rfl rfl (by decide)) (hfit_cons rfl (BX_keep rfl rfl rfl (by decide)) (hfit_cons rfl (BX_keep rfl rfl rfl (by decide)) (hfit_cons rfl (BX_keep rfl rfl rfl (by decide)) (hfit_cons rfl (BX_keep rfl rfl rfl (by decide)) (hfit_cons rfl (BX_keep rfl rfl rfl (by decide)) hfit_nil))))))))))))))))))))))))))))))))))))
    · exact uniq_nodup (by decide +kernel)
    · simp only [go_sem, rr15, List.getD_eq_getElem?_getD, ht, one, Option.getD_some, Option.map_some, ren, gmap, List.getElem?_cons_zero, List.getElem?_cons_succ, List.length_cons, List.length_nil, Nat.reduceAdd, Nat.reduceMul]
  · refine run_ret_drop Tryd.func15 res15 [0, 1, 2, 40, 4, 5, 6, 7, 8, 9, 10, 11, 12, 13, 14, 15, 16, 17, 18, 37, 38, 21, 22, 23, 24, 25, 26, 27, 28, 29, 30, 31, 32, 33, 34, 35, 36] _ _ rfl (by simp) ?_ ?_ ?_ hQ
    · exact hfit_cons_none (hfit_cons_none (hfit_cons_none (hfit_cons rfl (bfit_rw (fl_end 2 15 _ (by unfold isE; omega) (by unfold isE; omega) (fun j hj => gmap_mid (a := 40) (rest := [37, 38, 21, 22, 23, 24, 25, 26, 27, 28, 29, 30, 31, 32, 33, 34, 35, 36]) 15 (by decide +kernel) hj) rfl rfl)) (hfit_cons rfl (BX_keep rfl rfl rfl (by decide)) (hfit_cons rfl (BX_keep rfl rfl rfl (by decide)) (hfit_cons rfl (BX_keep rfl rfl rfl (by decide)) (hfit_cons rfl (BX_keep rfl rfl rfl (by decide)) (hfit_cons rfl (BX_keep rfl rfl rfl (by decide)) (hfit_cons rfl (BX_keep rfl rfl rfl (by decide)) (hfit_cons rfl (BX_keep rfl rfl rfl (by decide)) (hfit_cons rfl (BX_keep rfl rfl rfl (by decide)) (hfit_cons rfl (BX_keep rfl rfl rfl (by decide)) (hfit_cons rfl (BX_keep rfl rfl rfl (by decide)) (hfit_cons rfl (BX_keep rfl rfl rfl (by decide)) (hfit_cons rfl (BX_keep rfl rfl rfl (by decide)) (hfit_cons rfl (BX_keep rfl rfl rfl (by decide)) (hfit_cons rfl (BX_keep rfl rfl rfl (by decide)) (hfit_cons rfl (BX_keep rfl rfl rfl (by decide)) (hfit_cons rfl (BX_new (by decide) (tgt_k 2) rfl) (hfit_cons rfl (BX_new (by decide) (tgt_k1 2) rfl) (hfit_cons rfl (BX_keep rfl rfl rfl (by decide)) (hfit_cons rfl (BX_keep rfl rfl rfl (by decide)) (hfit_cons rfl (BX_keep rfl rfl rfl (by decide)) (hfit_cons rfl (BX_keep rfl rfl rfl (by decide)) (hfit_cons rfl (BX_keep rfl rfl rfl (by decide)) (hfit_cons rfl (BX_keep rfl rfl rfl (by decide)) (hfit_cons rfl (BX_keep rfl rfl rfl (by decide)) (hfit_cons rfl (BX_keep rfl rfl rfl (by decide)) (hfit_cons rfl (BX_keep rfl rfl rfl (by decide)) (hfit_cons rfl (BX_keep rfl rfl rfl (by decide)) (hfit_cons rfl (BX_keep rfl rfl rfl (by decide)) (hfit_cons rfl (BX_keep rfl rfl rfl (by decide)) (hfit_cons rfl (BX_keep rfl rfl rfl (by decide)) (hfit_cons rfl (BX_keep rfl rfl rfl (by decide)) (hfit_cons rfl (BX_keep rfl rfl rfl (by decide)) (hfit_cons rfl (BX_keep rfl rfl rfl (by decide)) hfit_nil))))))))))))))))))))))))))))))))))))
    · exact uniq_nodup (by decide +kernel)
    · simp only [go_sem, rr15, List.getD_eq_getElem?_getD, ht, one, Option.getD_some, Option.map_some, ren, gmap, List.getElem?_cons_zero, List.getElem?_cons_succ, List.length_cons, List.length_nil, Nat.reduceAdd, Nat.reduceMul]
  · refine run_ret_drop Tryd.func15 res15 [0, 1, 2, 40, 4, 5, 6, 7, 8, 9, 10, 11, 12, 13, 14, 15, 16, 17, 18, 19, 20, 37, 38, 23, 24, 25, 26, 27, 28, 29, 30, 31, 32, 33, 34, 35, 36] _ _ rfl (by simp) ?_ ?_ ?_ hQ
    · exact hfit_cons_none (hfit_cons_none (hfit_cons_none (hfit_cons rfl (bfit_rw (fl_end 3 17 _ (by unfold isE; omega) (by unfold isE; omega) (fun j hj => gmap_mid (a := 40) (rest := [37, 38, 23, 24, 25, 26, 27, 28, 29, 30, 31, 32, 33, 34, 35, 36]) 17 (by decide +kernel) hj) rfl rfl)) (hfit_cons rfl (BX_keep rfl rfl rfl (by decide)) (hfit_cons rfl (BX_keep rfl rfl rfl (by decide)) (hfit_cons rfl (BX_keep rfl rfl rfl (by decide)) (hfit_cons rfl (BX_keep rfl rfl rfl (by decide)) (hfit_cons rfl (BX_keep rfl rfl rfl (by decide)) (hfit_cons rfl (BX_keep rfl rfl rfl (by decide)) (hfit_cons rfl (BX_keep rfl rfl rfl (by decide)) (hfit_cons rfl (BX_keep rfl rfl rfl (by decide)) (hfit_cons rfl (BX_keep rfl rfl rfl (by decide)) (hfit_cons rfl (BX_keep rfl rfl rfl (by decide)) (hfit_cons rfl (BX_keep rfl rfl rfl (by decide)) (hfit_cons rfl (BX_keep rfl rfl rfl (by decide)) (hfit_cons rfl (BX_keep rfl rfl rfl (by decide)) (hfit_cons rfl (BX_keep rfl rfl rfl (by decide)) (hfit_cons rfl (BX_keep rfl rfl rfl (by decide)) (hfit_cons rfl (BX_keep rfl rfl rfl (by decide)) (hfit_cons rfl (BX_keep rfl rfl rfl (by decide)) (hfit_cons rfl (BX_new (by decide) (tgt_k 3) rfl) (hfit_cons rfl (BX_new (by decide) (tgt_k1 3) rfl) (hfit_cons rfl (BX_keep rfl rfl rfl (by decide)) (hfit_cons rfl (BX_keep rfl rfl rfl (by decide)) (hfit_cons rfl (BX_keep rfl rfl rfl (by decide)) (hfit_cons rfl (BX_keep rfl rfl rfl (by decide)) (hfit_cons rfl (BX_keep rfl rfl rfl (by decide)) (hfit_cons rfl (BX_keep rfl rfl rfl (by decide)) (hfit_cons rfl (BX_keep rfl rfl rfl (by decide)) (hfit_cons rfl (BX_keep rfl rfl rfl (by decide)) (hfit_cons rfl (BX_keep rfl rfl rfl (by decide)) (hfit_cons rfl (BX_keep rfl rfl rfl (by decide)) (hfit_cons rfl (BX_keep rfl rfl rfl (by decide)) (hfit_cons rfl (BX_keep rfl rfl rfl (by decide)) (hfit_cons rfl (BX_keep rfl rfl rfl (by decide)) (hfit_cons rfl (BX_keep rfl rfl rfl (by decide)) hfit_nil))))))))))))))))))))))))))))))))))))
    · exact uniq_nodup (by decide +kernel)
    · simp only [go_sem, rr15, List.getD_eq_getElem?_getD, ht, one, Option.getD_some, Option.map_some, ren, gmap, List.getElem?_cons_zero, List.getElem?_cons_succ, List.length_cons, List.length_nil, Nat.reduceAdd, Nat.reduceMul]
  · refine run_ret_drop Tryd.func15 res15 [0, 1, 2, 40, 4, 5, 6, 7, 8, 9, 10, 11, 12, 13, 14, 15, 16, 17, 18, 19, 20, 21, 22, 37, 38, 25, 26, 27, 28, 29, 30, 31, 32, 33, 34, 35, 36] _ _ rfl (by simp) ?_ ?_ ?_ hQ
    · exact hfit_cons_none (hfit_cons_none (hfit_cons_none (hfit_cons rfl (bfit_rw (fl_end 4 19 _ (by unfold isE; omega) (by unfold isE; omega) (fun j hj => gmap_mid (a := 40) (rest := [37, 38, 25, 26, 27, 28, 29, 30, 31, 32, 33, 34, 35, 36]) 19 (by decide +kernel) hj) rfl rfl)) (hfit_cons rfl (BX_keep rfl rfl rfl (by decide)) (hfit_cons rfl (BX_keep rfl rfl rfl (by decide)) (hfit_cons rfl (BX_keep rfl rfl rfl (by decide)) (hfit_cons rfl (BX_keep rfl rfl rfl (by decide)) (hfit_cons rfl (BX_keep rfl rfl rfl (by decide)) (hfit_cons rfl (BX_keep rfl rfl rfl (by decide)) (hfit_cons rfl (BX_keep rfl rfl rfl (by decide)) (hfit_cons rfl (BX_keep rfl rfl rfl (by decide)) (hfit_cons rfl (BX_keep rfl rfl rfl (by decide)) (hfit_cons rfl (BX_keep rfl rfl rfl (by decide)) (hfit_cons rfl (BX_keep rfl rfl rfl (by decide)) (hfit_cons rfl (BX_keep rfl rfl rfl (by decide)) (hfit_cons rfl (BX_keep rfl rfl rfl (by decide)) (hfit_cons rfl (BX_keep rfl rfl rfl (by decide)) (hfit_cons rfl (BX_keep rfl rfl rfl (by decide)) (hfit_cons rfl (BX_keep rfl rfl rfl (by decide)) (hfit_cons rfl (BX_keep rfl rfl rfl (by decide)) (hfit_cons rfl (BX_keep rfl rfl rfl (by decide)) (hfit_cons rfl (BX_keep rfl rfl rfl (by decide)) (hfit_cons rfl (BX_new (by decide) (tgt_k 4) rfl) (hfit_cons rfl (BX_new (by decide) (tgt_k1 4) rfl) (hfit_cons rfl (BX_keep rfl rfl rfl (by decide)) (hfit_cons rfl (BX_keep rfl rfl rfl (by decide)) (hfit_cons rfl (BX_keep rfl rfl rfl (by decide)) (hfit_cons rfl (BX_keep rfl rfl rfl (by decide)) (hfit_cons rfl (BX_keep rfl rfl rfl (by decide)) (hfit_cons rfl (BX_keep rfl rfl rfl (by decide)) (hfit_cons rfl (BX_keep rfl rfl rfl (by decide)) (hfit_cons rfl (BX_keep rfl rfl rfl (by decide)) (hfit_cons rfl (BX_keep rfl rfl rfl (by decide)) (hfit_cons rfl (BX_keep rfl rfl rfl (by decide)) (hfit_cons rfl (BX_keep rfl rfl rfl (by decide)) (hfit_cons rfl (BX_keep rfl rfl rfl (by decide)) hfit_nil))))))))))))))))))))))))))))))))))))
    · exact uniq_nodup (by decide +kernel)
    · simp only [go_sem, rr15, List.getD_eq_getElem?_getD, ht, one, Option.getD_some, Option.map_some, ren, gmap, List.getElem?_cons_zero, List.getElem?_cons_succ, List.length_cons, List.length_nil, Nat.reduceAdd, Nat.reduceMul]
  · refine run_ret_drop Tryd.func15 res15 [0, 1, 2, 40, 4, 5, 6, 7, 8, 9, 10, 11, 12, 13, 14, 15, 16, 17, 18, 19, 20, 21, 22, 23, 24, 37, 38, 27, 28, 29, 30, 31, 32, 33, 34, 35, 36] _ _ rfl (by simp) ?_ ?_ ?_ hQ
    · exact hfit_cons_none (hfit_cons_none (hfit_cons_none (hfit_cons rfl (bfit_rw (fl_end 5 21 _ (by unfold isE; omega) (by unfold isE; omega) (fun j hj => gmap_mid (a := 40) (rest := [37, 38, 27, 28, 29, 30, 31, 32, 33, 34, 35, 36]) 21 (by decide +kernel) hj) rfl rfl)) (hfit_cons rfl (BX_keep rfl rfl rfl (by decide)) (hfit_cons rfl (BX_keep rfl rfl rfl (by decide)) (hfit_cons rfl (BX_keep rfl rfl rfl (by decide)) (hfit_cons rfl (BX_keep rfl rfl rfl (by decide)) (hfit_cons rfl (BX_keep rfl rfl rfl (by decide)) (hfit_cons rfl (BX_keep rfl rfl rfl (by decide)) (hfit_cons rfl (BX_keep rfl rfl rfl (by decide)) (hfit_cons rfl (BX_keep rfl rfl rfl (by decide)) (hfit_cons rfl (BX_keep rfl rfl rfl (by decide)) (hfit_cons rfl (BX_keep rfl rfl rfl (by decide)) (hfit_cons rfl (BX_keep rfl rfl rfl (by decide)) (hfit_cons rfl (BX_keep rfl rfl rfl (by decide)) (hfit_cons rfl (BX_keep rfl rfl rfl (by decide)) (hfit_cons rfl (BX_keep rfl rfl rfl (by decide)) (hfit_cons rfl (BX_keep rfl rfl rfl (by decide)) (hfit_cons rfl (BX_keep rfl rfl rfl (by decide)) (hfit_cons rfl (BX_keep rfl rfl rfl (by decide)) (hfit_cons rfl (BX_keep rfl rfl rfl (by decide)) (hfit_cons rfl (BX_keep rfl rfl rfl (by decide)) (hfit_cons rfl (BX_keep rfl rfl rfl (by decide)) (hfit_cons rfl (BX_keep rfl rfl rfl (by decide)) (hfit_cons rfl (BX_new (by decide) (tgt_k 5) rfl) (hfit_cons rfl (BX_new (by decide) (tgt_k1 5) rfl) (hfit_cons rfl (BX_keep rfl rfl rfl (by decide)) (hfit_cons rfl (BX_keep rfl rfl rfl (by decide)) (hfit_cons rfl (BX_keep rfl rfl rfl (by decide)) (hfit_cons rfl (BX_keep rfl rfl rfl (by decide)) (hfit_cons rfl (BX_keep rfl rfl rfl (by decide)) (hfit_cons rfl (BX_keep rfl rfl rfl (by decide)) (hfit_cons rfl (BX_keep rfl rfl rfl (by decide)) (hfit_cons rfl (BX_keep rfl rfl rfl (by decide)) (hfit_cons rfl (BX_keep rfl rfl rfl (by decide)) (hfit_cons rfl (BX_keep rfl rfl rfl (by decide)) hfit_nil))))))))))))))))))))))))))))))))))))
    · exact uniq_nodup (by decide +kernel)
    · simp only [go_sem, rr15, List.getD_eq_getElem?_getD, ht, one, Option.getD_some, Option.map_some, ren, gmap, List.getElem?_cons_zero, List.getElem?_cons_succ, List.length_cons, List.length_nil, Nat.reduceAdd, Nat.reduceMul]
  · refine run_ret_drop Tryd.func15 res15 [0, 1, 2, 40, 4, 5, 6, 7, 8, 9, 10, 11, 12, 13, 14, 15, 16, 17, 18, 19, 20, 21, 22, 23, 24, 25, 26, 37, 38, 29, 30, 31, 32, 33, 34, 35, 36] _ _ rfl (by simp) ?_ ?_ ?_ hQ
    · exact hfit_cons_none (hfit_cons_none (hfit_cons_none (hfit_cons rfl (bfit_rw (fl_end 6 23 _ (by unfold isE; omega) (by unfold isE; omega) (fun j hj => gmap_mid (a := 40) (rest := [37, 38, 29, 30, 31, 32, 33, 34, 35, 36]) 23 (by decide +kernel) hj) rfl rfl)) (hfit_cons rfl (BX_keep rfl rfl rfl (by decide)) (hfit_cons rfl (BX_keep rfl rfl rfl (by decide)) (hfit_cons rfl (BX_keep rfl rfl rfl (by decide)) (hfit_cons rfl (BX_keep rfl rfl rfl (by decide)) (hfit_cons rfl (BX_keep rfl rfl rfl (by decide)) (hfit_cons rfl (BX_keep rfl rfl rfl (by decide)) (hfit_cons rfl (BX_keep rfl rfl rfl (by decide)) (hfit_cons rfl (BX_keep rfl rfl rfl (by decide)) (hfit_cons rfl (BX_keep rfl rfl rfl (by decide)) (hfit_cons rfl (BX_keep rfl rfl rfl (by decide)) (hfit_cons rfl (BX_keep rfl rfl rfl (by decide)) (hfit_cons rfl (BX_keep rfl rfl rfl (by decide)) (hfit_cons rfl (BX_keep rfl rfl rfl (by decide)) (hfit_cons rfl (BX_keep rfl rfl rfl (by decide)) (hfit_cons rfl (BX_keep rfl rfl rfl (by decide)) (hfit_cons rfl (BX_keep rfl rfl rfl (by decide)) (hfit_cons rfl (BX_keep rfl rfl rfl (by decide)) (hfit_cons rfl (BX_keep rfl rfl rfl (by decide)) (hfit_cons rfl (BX_keep rfl rfl rfl (by decide)) (hfit_cons rfl (BX_keep rfl rfl rfl (by decide)) (hfit_cons rfl (BX_keep rfl rfl rfl (by decide)) (hfit_cons rfl (BX_keep rfl rfl rfl (by decide)) (hfit_cons rfl (BX_keep rfl rfl rfl (by decide)) (hfit_cons rfl (BX_new (by decide) (tgt_k 6) rfl) (hfit_cons rfl (BX_new (by decide) (tgt_k1 6) rfl) (hfit_cons rfl (BX_keep rfl rfl rfl (by decide)) (hfit_cons rfl (BX_keep rfl rfl rfl (by decide)) (hfit_cons rfl (BX_keep rfl rfl rfl (by decide)) (hfit_cons rfl (BX_keep rfl rfl rfl (by decide)) (hfit_cons rfl (BX_keep rfl rfl rfl (by decide)) (hfit_cons rfl (BX_keep rfl rfl rfl (by decide)) (hfit_cons rfl (BX_keep rfl rfl rfl (by decide)) (hfit_cons rfl (BX_keep rfl rfl rfl (by decide)) hfit_nil))))))))))))))))))))))))))))))))))))
    · exact uniq_nodup (by decide +kernel)
    · simp only [go_sem, rr15, List.getD_eq_getElem?_getD, ht, one, Option.getD_some, Option.map_some, ren, gmap, List.getElem?_cons_zero, List.getElem?_cons_succ, List.length_cons, List.length_nil, Nat.reduceAdd, Nat.reduceMul]
  · refine run_ret_drop Tryd.func15 res15 [0, 1, 2, 40, 4, 5, 6, 7, 8, 9, 10, 11, 12, 13, 14, 15, 16, 17, 18, 19, 20, 21, 22, 23, 24, 25, 26, 27, 28, 37, 38, 31, 32, 33, 34, 35, 36] _ _ rfl (by simp) ?_ ?_ ?_ hQ
    · exact hfit_cons_none (hfit_cons_none (hfit_cons_none (hfit_cons rfl (bfit_rw (fl_end 7 25 _ (by unfold isE; omega) (by unfold isE; omega) (fun j hj => gmap_mid (a := 40) (rest := [37, 38, 31, 32, 33, 34, 35, 36]) 25 (by decide +kernel) hj) rfl rfl)) (hfit_cons rfl (BX_keep rfl rfl rfl (by decide)) (hfit_cons rfl (BX_keep rfl rfl rfl (by decide)) (hfit_cons rfl (BX_keep rfl rfl rfl (by decide)) (hfit_cons rfl (BX_keep rfl rfl rfl (by decide)) (hfit_cons rfl (BX_keep rfl rfl rfl (by decide)) (hfit_cons rfl (BX_keep rfl rfl rfl (by decide)) (hfit_cons rfl (BX_keep rfl rfl rfl (by decide)) (hfit_cons rfl (BX_keep rfl rfl rfl (by decide)) (hfit_cons rfl (BX_keep rfl rfl rfl (by decide)) (hfit_cons rfl (BX_keep rfl rfl rfl (by decide)) (hfit_cons rfl (BX_keep rfl rfl rfl (by decide)) (hfit_cons rfl (BX_keep rfl rfl rfl (by decide)) (hfit_cons rfl (BX_keep rfl rfl rfl (by decide)) (hfit_cons rfl (BX_keep rfl rfl rfl (by decide)) (hfit_cons rfl (BX_keep rfl rfl rfl (by decide)) (hfit_cons rfl (BX_keep rfl rfl rfl (by decide)) (hfit_cons rfl (BX_keep rfl rfl rfl (by decide)) (hfit_cons rfl (BX_keep rfl rfl rfl (by decide)) (hfit_cons rfl (BX_keep rfl rfl rfl (by decide)) (hfit_cons rfl (BX_keep rfl rfl rfl (by decide)) (hfit_cons rfl (BX_keep rfl rfl rfl (by decide)) (hfit_cons rfl (BX_keep rfl rfl rfl (by decide)) (hfit_cons rfl (BX_keep rfl rfl rfl (by decide)) (hfit_cons rfl (BX_keep rfl rfl rfl (by decide)) (hfit_cons rfl (BX_keep rfl rfl rfl (by decide)) (hfit_cons rfl (BX_new (by decide) (tgt_k 7) rfl) (hfit_cons rfl (BX_new (by decide) (tgt_k1 7) rfl) (hfit_cons rfl (BX_keep rfl rfl rfl (by decide)) (hfit_cons rfl (BX_keep rfl rfl rfl (by decide)) (hfit_cons rfl (BX_keep rfl rfl rfl (by decide)) (hfit_cons rfl (BX_keep rfl rfl rfl (by decide)) (hfit_cons rfl (BX_keep rfl rfl rfl (by decide)) (hfit_cons rfl (BX_keep rfl rfl rfl (by decide)) hfit_nil))))))))))))))))))))))))))))))))))))
    · exact uniq_nodup (by decide +kernel)
    · simp only [go_sem, rr15, List.getD_eq_getElem?_getD, ht, one, Option.getD_some, Option.map_some, ren, gmap, List.getElem?_cons_zero, List.getElem?_cons_succ, List.length_cons, List.length_nil, Nat.reduceAdd, Nat.reduceMul]
  · refine run_ret_drop Tryd.func15 res15 [0, 1, 2, 40, 4, 5, 6, 7, 8, 9, 10, 11, 12, 13, 14, 15, 16, 17, 18, 19, 20, 21, 22, 23, 24, 25, 26, 27, 28, 29, 30, 37, 38, 33, 34, 35, 36] _ _ rfl (by simp) ?_ ?_ ?_ hQ
    · exact hfit_cons_none (hfit_cons_none (hfit_cons_none (hfit_cons rfl (bfit_rw (fl_end 8 27 _ (by unfold isE; omega) (by unfold isE; omega) (fun j hj => gmap_mid (a := 40) (rest := [37, 38, 33, 34, 35, 36]) 27 (by decide +kernel) hj) rfl rfl)) (hfit_cons rfl (BX_keep rfl rfl rfl (by decide)) (hfit_cons rfl (BX_keep rfl rfl rfl (by decide)) (hfit_cons rfl (BX_keep rfl rfl rfl (by decide)) (hfit_cons rfl (BX_keep rfl rfl rfl (by decide)) (hfit_cons rfl (BX_keep rfl rfl rfl (by decide)) (hfit_cons rfl (BX_keep rfl rfl rfl (by decide)) (hfit_cons rfl (BX_keep rfl rfl rfl (by decide)) (hfit_cons rfl (BX_keep rfl rfl rfl (by decide)) (hfit_cons rfl (BX_keep rfl rfl rfl (by decide)) (hfit_cons rfl (BX_keep rfl rfl rfl (by decide)) (hfit_cons rfl (BX_keep rfl rfl rfl (by decide)) (hfit_cons rfl (BX_keep rfl rfl rfl (by decide)) (hfit_cons rfl (BX_keep rfl rfl rfl (by decide)) (hfit_cons rfl (BX_keep rfl rfl rfl (by decide)) (hfit_cons rfl (BX_keep rfl rfl rfl (by decide)) (hfit_cons rfl (BX_keep rfl rfl rfl (by decide)) (hfit_cons rfl (BX_keep rfl rfl rfl (by decide)) (hfit_cons rfl (BX_keep rfl rfl rfl (by decide)) (hfit_cons rfl (BX_keep rfl rfl rfl (by decide)) (hfit_cons rfl (BX_keep rfl rfl rfl (by decide)) (hfit_cons rfl (BX_keep rfl rfl rfl (by decide)) (hfit_cons rfl (BX_keep rfl rfl rfl (by decide)) (hfit_cons rfl (BX_keep rfl rfl rfl (by decide)) (hfit_cons rfl (BX_keep rfl rfl rfl (by decide)) (hfit_cons rfl (BX_keep rfl rfl rfl (by decide)) (hfit_cons rfl (BX_keep rfl rfl rfl (by decide)) (hfit_cons rfl (BX_keep rfl rfl rfl (by decide)) (hfit_cons rfl (BX_new (by decide) (tgt_k 8) rfl) (hfit_cons rfl (BX_new (by decide) (tgt_k1 8) rfl) (hfit_cons rfl (BX_keep rfl rfl rfl (by decide)) (hfit_cons rfl (BX_keep rfl rfl rfl (by decide)) (hfit_cons rfl (BX_keep rfl rfl rfl (by decide)) (hfit_cons rfl (BX_keep rfl rfl rfl (by decide)) hfit_nil))))))))))))))))))))))))))))))))))))
    · exact uniq_nodup (by decide +kernel)
    · simp only [go_sem, rr15, List.getD_eq_getElem?_getD, ht, one, Option.getD_some, Option.map_some, ren, gmap, List.getElem?_cons_zero, List.getElem?_cons_succ, List.length_cons, List.length_nil, Nat.reduceAdd, Nat.reduceMul]
  · refine run_ret_drop Tryd.func15 res15 [0, 1, 2, 40, 4, 5, 6, 7, 8, 9, 10, 11, 12, 13, 14, 15, 16, 17, 18, 19, 20, 21, 22, 23, 24, 25, 26, 27, 28, 29, 30, 31, 32, 37, 38, 35, 36] _ _ rfl (by simp) ?_ ?_ ?_ hQ
    · exact hfit_cons_none (hfit_cons_none (hfit_cons_none (hfit_cons rfl (bfit_rw (fl_end 9 29 _ (by unfold isE; omega) (by unfold isE; omega) (fun j hj => gmap_mid (a := 40) (rest := [37, 38, 35, 36]) 29 (by decide +kernel) hj) rfl rfl)) (hfit_cons rfl (BX_keep rfl rfl rfl (by decide)) (hfit_cons rfl (BX_keep rfl rfl rfl (by decide)) (hfit_cons rfl (BX_keep rfl rfl rfl (by decide)) (hfit_cons rfl (BX_keep rfl rfl rfl (by decide)) (hfit_cons rfl (BX_keep rfl rfl rfl (by decide)) (hfit_cons rfl (BX_keep rfl rfl rfl (by decide)) (hfit_cons rfl (BX_keep rfl rfl rfl (by decide)) (hfit_cons rfl (BX_keep rfl rfl rfl (by decide)) (hfit_cons rfl (BX_keep rfl rfl rfl (by decide)) (hfit_cons rfl (BX_keep rfl rfl rfl (by decide)) (hfit_cons rfl (BX_keep rfl rfl rfl (by decide)) (hfit_cons rfl (BX_keep rfl rfl rfl (by decide)) (hfit_cons rfl (BX_keep rfl rfl rfl (by decide)) (hfit_cons rfl (BX_keep rfl rfl rfl (by decide)) (hfit_cons rfl (BX_keep rfl rfl rfl (by decide)) (hfit_cons rfl (BX_keep rfl rfl rfl (by decide)) (hfit_cons rfl (BX_keep rfl rfl rfl (by decide)) (hfit_cons rfl (BX_keep rfl rfl rfl (by decide)) (hfit_cons rfl (BX_keep rfl rfl rfl (by decide)) (hfit_cons rfl (BX_keep rfl rfl rfl (by decide)) (hfit_cons rfl (BX_keep rfl rfl rfl (by decide)) (hfit_cons rfl (BX_keep rfl rfl rfl (by decide)) (hfit_cons rfl (BX_keep rfl rfl rfl (by decide)) (hfit_cons rfl (BX_keep rfl rfl rfl (by decide)) (hfit_cons rfl (BX_keep rfl rfl rfl (by decide)) (hfit_cons rfl (BX_keep rfl rfl rfl (by decide)) (hfit_cons rfl (BX_keep rfl rfl rfl (by decide)) (hfit_cons rfl (BX_keep rfl rfl rfl (by decide)) (hfit_cons rfl (BX_keep rfl rfl rfl (by decide)) (hfit_cons rfl (BX_new (by decide) (tgt_k 9) rfl) (hfit_cons rfl (BX_new (by decide) (tgt_k1 9) rfl) (hfit_cons rfl (BX_keep rfl rfl rfl (by decide)) (hfit_cons rfl (BX_keep rfl rfl rfl (by decide)) hfit_nil))))))))))))))))))))))))))))))))))))
    · exact uniq_nodup (by decide +kernel)
    · simp only [go_sem, rr15, List.getD_eq_getElem?_getD, ht, one, Option.getD_some, Option.map_some, ren, gmap, List.getElem?_cons_zero, List.getElem?_cons_succ, List.length_cons, List.length_nil, Nat.reduceAdd, Nat.reduceMul]
  · refine run_ret_drop Tryd.func15 res15 [0, 1, 2, 40, 4, 5, 6, 7, 8, 9, 10, 11, 12, 13, 14, 15, 16, 17, 18, 19, 20, 21, 22, 23, 24, 25, 26, 27, 28, 29, 30, 31, 32, 33, 34, 37, 38] _ _ rfl (by simp) ?_ ?_ ?_ hQ
    · exact hfit_cons_none (hfit_cons_none (hfit_cons_none (hfit_cons rfl (bfit_rw (fl_end 10 31 _ (by unfold isE; omega) (by unfold isE; omega) (fun j hj => gmap_mid (a := 40) (rest := [37, 38]) 31 (by decide +kernel) hj) rfl rfl)) (hfit_cons rfl (BX_keep rfl rfl rfl (by decide)) (hfit_cons rfl (BX_keep rfl rfl rfl (by decide)) (hfit_cons rfl (BX_keep rfl rfl rfl (by decide)) (hfit_cons rfl (BX_keep rfl rfl rfl (by decide)) (hfit_cons rfl (BX_keep rfl rfl rfl (by decide)) (hfit_cons rfl (BX_keep rfl rfl rfl (by decide)) (hfit_cons rfl (BX_keep rfl rfl rfl (by decide)) (hfit_cons rfl (BX_keep rfl rfl rfl (by decide)) (hfit_cons rfl (BX_keep rfl rfl rfl (by decide)) (hfit_cons rfl (BX_keep rfl rfl rfl (by decide)) (hfit_cons rfl (BX_keep rfl rfl rfl (by decide)) (hfit_cons rfl (BX_keep rfl rfl rfl (by decide)) (hfit_cons rfl (BX_keep rfl rfl rfl (by decide)) (hfit_cons rfl (BX_keep rfl rfl rfl (by decide)) (hfit_cons rfl (BX_keep rfl rfl rfl (by decide)) (hfit_cons rfl (BX_keep rfl rfl rfl (by decide)) (hfit_cons rfl (BX_keep rfl rfl rfl (by decide)) (hfit_cons rfl (BX_keep rfl rfl rfl (by decide)) (hfit_cons rfl (BX_keep rfl rfl rfl (by decide)) (hfit_cons rfl (BX_keep rfl rfl rfl (by decide)) (hfit_cons rfl (BX_keep rfl rfl rfl (by decide)) (hfit_cons rfl (BX_keep rfl rfl rfl (by decide)) (hfit_cons rfl (BX_keep rfl rfl rfl (by decide)) (hfit_cons rfl (BX_keep rfl rfl rfl (by decide)) (hfit_cons rfl (BX_keep rfl rfl rfl (by decide)) (hfit_cons rfl (BX_keep rfl rfl rfl (by decide)) (hfit_cons rfl (BX_keep rfl rfl rfl (by decide)) (hfit_cons rfl (BX_keep rfl rfl rfl (by decide)) (hfit_cons rfl (BX_keep rfl rfl rfl (by decide)) (hfit_cons rfl (BX_keep rfl rfl rfl (by decide)) (hfit_cons rfl (BX_keep rfl rfl rfl (by decide)) (hfit_cons rfl (BX_new (by decide) (tgt_k 10) rfl) (hfit_cons rfl (BX_new (by decide) (tgt_k1 10) rfl) hfit_nil))))))))))))))))))))))))))))))))))))
    · exact uniq_nodup (by decide +kernel)
    · simp only [go_sem, rr15, List.getD_eq_getElem?_getD, ht, one, Option.getD_some, Option.map_some, ren, gmap, List.getElem?_cons_zero, List.getElem?_cons_succ, List.length_cons, List.length_nil, Nat.reduceAdd, Nat.reduceMul]
theorem fields_fn (hk : k ≤ 10) (hl : lenO l = some k) (hr : lenO r = some k) (hlk : l.known = true) (hrk : r.known = true) (hL : 0 < k → ∃ c, l = .sl 1 0 k c) (hR : 0 < k → ∃ c, r = .sl 2 0 k c) (hlr : ∀ f : Nat → Nat, f 1 = 1 → ren f l = l) (hrr : ∀ f : Nat → Nat, f 2 = 2 → ren f r = r) (hLf : ∀ f, bfit f L L) (hRf : ∀ f, bfit f R R) {Q : V → Heap → Prop} (hQ : Q (.sl 3 0 (13 + 2 * k) (.grow 2)) [none, none, none, some ⟨.grow, frow k b4 (13 + 2 * k)⟩, BX k (13 + 2 * k) 0, BX k (13 + 2 * k) 1, BX k (13 + 2 * k) 2, BX k (13 + 2 * k) 3, BX k (13 + 2 * k) 4, BX k (13 + 2 * k) 5, BX k (13 + 2 * k) 6, BX k (13 + 2 * k) 7, BX k (13 + 2 * k) 8, BX k (13 + 2 * k) 9, BX k (13 + 2 * k) 10, BX k (13 + 2 * k) 11, BX k (13 + 2 * k) 12, BX k (13 + 2 * k) 13, BX k (13 + 2 * k) 14, BX k (13 + 2 * k) 15, BX k (13 + 2 * k) 16, BX k (13 + 2 * k) 17, BX k (13 + 2 * k) 18, BX k (13 + 2 * k) 19, BX k (13 + 2 * k) 20, BX k (13 + 2 * k) 21, BX k (13 + 2 * k) 22, BX k (13 + 2 * k) 23, BX k (13 + 2 * k) 24, BX k (13 + 2 * k) 25, BX k (13 + 2 * k) 26, BX k (13 + 2 * k) 27, BX k (13 + 2 * k) 28, BX k (13 + 2 * k) 29, BX k (13 + 2 * k) 30, BX k (13 + 2 * k) 31, BX k (13 + 2 * k) 32]) : VCall Tryd.prog G 15 [.ptr 0 0] [some ⟨.ro, pc v l r⟩, L, R] Q := by
  refine vcall_body Tryd.func15 nm15 code15 nt15 ?_
  refine run_driveS 80 ?_
  simp only [go_sem, v15, v15_0]
  refine run_drw (by kernel_rfl) ?_
  refine drun_drive 40 (p := (_, _)) ?_
  simp only [go_sem, v15_1, restore, Option.join_some, maskH, List.mapIdx_cons, List.mapIdx_nil, List.contains_cons, List.contains_nil, Bool.or_false, Bool.or_true, Bool.false_or, Bool.true_or, Nat.reduceBEq]
  refine drun_call' ?_
  simp only [go_sem, calV, restore, Option.join_some, maskH, List.mapIdx_cons, List.mapIdx_nil, List.contains_cons, List.contains_nil, Bool.or_false, Bool.or_true, Bool.false_or, Bool.true_or, Nat.reduceBEq]
  refine elem_at 0 _ (by simp) ?_
  refine drun_drive 40 (p := (_, _)) ?_
  simp only [go_sem, restore, Option.join_some, maskH, List.mapIdx_cons, List.mapIdx_nil, List.contains_cons, List.contains_nil, Bool.or_false, Bool.or_true, Bool.false_or, Bool.true_or, Nat.reduceBEq]
  refine drun_call' ?_
  simp only [go_sem, calV, restore, Option.join_some, maskH, List.mapIdx_cons, List.mapIdx_nil, List.contains_cons, List.contains_nil, Bool.or_false, Bool.or_true, Bool.false_or, Bool.true_or, Nat.reduceBEq]
  refine elem_at 0 _ (by simp) ?_
  refine drun_drive 40 (p := (_, _)) ?_
  simp only [go_sem, restore, Option.join_some, maskH, List.mapIdx_cons, List.mapIdx_nil, List.contains_cons, List.contains_nil, Bool.or_false, Bool.or_true, Bool.false_or, Bool.true_or, Nat.reduceBEq]
  refine drun_call' ?_
  simp only [go_sem, calV, restore, Option.join_some, maskH, List.mapIdx_cons, List.mapIdx_nil, List.contains_cons, List.contains_nil, Bool.or_false, Bool.or_true, Bool.false_or, Bool.true_or, Nat.reduceBEq]
  refine elem_at 0 _ (by simp) ?_
  refine drun_drive 40 (p := (_, _)) ?_
  simp only [go_sem, restore, Option.join_some, maskH, List.mapIdx_cons, List.mapIdx_nil, List.contains_cons, List.contains_nil, Bool.or_false, Bool.or_true, Bool.false_or, Bool.true_or, Nat.reduceBEq]
  refine drun_call' ?_
  simp only [go_sem, calV, restore, Option.join_some, maskH, List.mapIdx_cons, List.mapIdx_nil, List.contains_cons, List.contains_nil, Bool.or_false, Bool.or_true, Bool.false_or, Bool.true_or, Nat.reduceBEq]
  refine elem_at 0 _ (by simp) ?_
  refine drun_drive 40 (p := (_, _)) ?_
  simp only [go_sem, restore, Option.join_some, maskH, List.mapIdx_cons, List.mapIdx_nil, List.contains_cons, List.contains_nil, Bool.or_false, Bool.or_true, Bool.false_or, Bool.true_or, Nat.reduceBEq]
  refine drun_call' ?_
  simp only [go_sem, calV, restore, Option.join_some, maskH, List.mapIdx_cons, List.mapIdx_nil, List.contains_cons, List.contains_nil, Bool.or_false, Bool.or_true, Bool.false_or, Bool.true_or, Nat.reduceBEq]
  refine elem_at 0 _ (by simp) ?_
  refine drun_drive 40 (p := (_, _)) ?_
  simp only [go_sem, restore, Option.join_some, maskH, List.mapIdx_cons, List.mapIdx_nil, List.contains_cons, List.contains_nil, Bool.or_false, Bool.or_true, Bool.false_or, Bool.true_or, Nat.reduceBEq]
  refine drun_call' ?_
  simp only [go_sem, calV, restore, Option.join_some, maskH, List.mapIdx_cons, List.mapIdx_nil, List.contains_cons, List.contains_nil, Bool.or_false, Bool.or_true, Bool.false_or, Bool.true_or, Nat.reduceBEq]
  refine elem_at 0 _ (by simp) ?_
  refine drun_drive 40 (p := (_, _)) ?_
  simp only [go_sem, restore, Option.join_some, maskH, List.mapIdx_cons, List.mapIdx_nil, List.contains_cons, List.contains_nil, Bool.or_false, Bool.or_true, Bool.false_or, Bool.true_or, Nat.reduceBEq]
  refine drun_call' ?_
  simp only [go_sem, calV, restore, Option.join_some, maskH, List.mapIdx_cons, List.mapIdx_nil, List.contains_cons, List.contains_nil, Bool.or_false, Bool.or_true, Bool.false_or, Bool.true_or, Nat.reduceBEq]
  refine elem_at 0 _ (by simp) ?_
  refine drun_drive 40 (p := (_, _)) ?_
  simp only [go_sem, restore, Option.join_some, maskH, List.mapIdx_cons, List.mapIdx_nil, List.contains_cons, List.contains_nil, Bool.or_false, Bool.or_true, Bool.false_or, Bool.true_or, Nat.reduceBEq]
  refine drun_call' ?_
  simp only [go_sem, calV, restore, Option.join_some, maskH, List.mapIdx_cons, List.mapIdx_nil, List.contains_cons, List.contains_nil, Bool.or_false, Bool.or_true, Bool.false_or, Bool.true_or, Nat.reduceBEq]
  refine elem_at 0 _ (by simp) ?_
  refine drun_drive 40 (p := (_, _)) ?_
  simp only [go_sem, restore, Option.join_some, maskH, List.mapIdx_cons, List.mapIdx_nil, List.contains_cons, List.contains_nil, Bool.or_false, Bool.or_true, Bool.false_or, Bool.true_or, Nat.reduceBEq]
  refine drun_call' ?_
  simp only [go_sem, calV, restore, Option.join_some, maskH, List.mapIdx_cons, List.mapIdx_nil, List.contains_cons, List.contains_nil, Bool.or_false, Bool.or_true, Bool.false_or, Bool.true_or, Nat.reduceBEq]
  refine numb_at 0 _ (by simp) ?_
  refine drun_drive 40 (p := (_, _)) ?_
  simp only [go_sem, restore, Option.join_some, maskH, List.mapIdx_cons, List.mapIdx_nil, List.contains_cons, List.contains_nil, Bool.or_false, Bool.or_true, Bool.false_or, Bool.true_or, Nat.reduceBEq]
  refine drun_call' ?_
  simp only [go_sem, calV, restore, Option.join_some, maskH, List.mapIdx_cons, List.mapIdx_nil, List.contains_cons, List.contains_nil, Bool.or_false, Bool.or_true, Bool.false_or, Bool.true_or, Nat.reduceBEq]
  refine numb_at 0 _ (by simp) ?_
  refine drun_drive 40 (p := (_, _)) ?_
  simp only [go_sem, restore, Option.join_some, maskH, List.mapIdx_cons, List.mapIdx_nil, List.contains_cons, List.contains_nil, Bool.or_false, Bool.or_true, Bool.false_or, Bool.true_or, Nat.reduceBEq]
  refine drun_call' ?_
  simp only [go_sem, calV, restore, Option.join_some, maskH, List.mapIdx_cons, List.mapIdx_nil, List.contains_cons, List.contains_nil, Bool.or_false, Bool.or_true, Bool.false_or, Bool.true_or, Nat.reduceBEq]
  refine numb_at 0 _ (by simp) ?_
  refine drun_drive 40 (p := (_, _)) ?_
  simp only [go_sem, restore, Option.join_some, maskH, List.mapIdx_cons, List.mapIdx_nil, List.contains_cons, List.contains_nil, Bool.or_false, Bool.or_true, Bool.false_or, Bool.true_or, Nat.reduceBEq]
  refine drun_end ?_
  refine run_rename [0, 1, 2, 14, 3, 4, 5, 6, 7, 8, 9, 10, 11, 12, 13, 15, 16, 17, 18, 19, 20, 21, 22, 23, 24, 25, 26, 27, 28, 29, 30, 31, 32, 33, 34, 35, 36] (st' := ⟨[.ptr 0 0, .unk, .unk, .sl 3 0 11 (.exact 11)] ++ List.replicate 83 .unk, [some ⟨.ro, pc v l r⟩, L, R, some ⟨.rw, frow k b4 11⟩, BX k (11) 0, BX k (11) 1, BX k (11) 2, BX k (11) 3, BX k (11) 4, BX k (11) 5, BX k (11) 6, BX k (11) 7, BX k (11) 8, BX k (11) 9, BX k (11) 10, BX k (11) 11, BX k (11) 12, BX k (11) 13, BX k (11) 14, BX k (11) 15, BX k (11) 16, BX k (11) 17, BX k (11) 18, BX k (11) 19, BX k (11) 20, BX k (11) 21, BX k (11) 22, BX k (11) 23, BX k (11) 24, BX k (11) 25, BX k (11) 26, BX k (11) 27, BX k (11) 28, BX k (11) 29, BX k (11) 30, BX k (11) 31, BX k (11) 32]⟩) rfl (by simp) ?_ ?_ ?_ ?_
  · exact hfit_cons rfl (pc_fit v l r hlr hrr _ rfl rfl) (hfit_cons rfl (hLf _) (hfit_cons rfl (hRf _) (hfit_cons rfl (bfit_rw (fl_ini k _ (fun j hj => by rw [gmap_lt (show _ = some (3 + j) from by match j, hj with | 0, _ | 1, _ | 2, _ | 3, _ | 4, _ | 5, _ | 6, _ | 7, _ | 8, _ | 9, _ | 10, _ => rfl)]))) (hfit_cons rfl (BX_new (by decide) (tgt_0 k 0 (by decide)) rfl) (hfit_cons rfl (BX_new (by decide) (tgt_0 k 1 (by decide)) rfl) (hfit_cons rfl (BX_new (by decide) (tgt_0 k 2 (by decide)) rfl) (hfit_cons rfl (BX_new (by decide) (tgt_0 k 3 (by decide)) rfl) (hfit_cons rfl (BX_new (by decide) (tgt_0 k 4 (by decide)) rfl) (hfit_cons rfl (BX_new (by decide) (tgt_0 k 5 (by decide)) rfl) (hfit_cons rfl (BX_new (by decide) (tgt_0 k 6 (by decide)) rfl) (hfit_cons rfl (BX_new (by decide) (tgt_0 k 7 (by decide)) rfl) (hfit_cons rfl (BX_new (by decide) (tgt_0 k 8 (by decide)) rfl) (hfit_cons rfl (BX_new (by decide) (tgt_0 k 9 (by decide)) rfl) (hfit_cons rfl (BX_new (by decide) (tgt_0 k 10 (by decide)) rfl) (hfit_off (by decide) (hfit_off (by decide) (hfit_off (by decide) (hfit_off (by decide) (hfit_off (by decide) (hfit_off (by decide) (hfit_off (by decide) (hfit_off (by decide) (hfit_off (by decide) (hfit_off (by decide) (hfit_off (by decide) (hfit_off (by decide) (hfit_off (by decide) (hfit_off (by decide) (hfit_off (by decide) (hfit_off (by decide) (hfit_off (by decide) (hfit_off (by decide) (hfit_off (by decide) (hfit_off (by decide) (hfit_off (by decide) (hfit_off (by decide) hfit_nil))))))))))))))))))))))))))))))))))))
  · exact uniq_nodup (by decide +kernel)
  · simp only [go_sem, fit, ren, gmap, true_or, or_true]
  have p1 := pc_l v l r
  refine run_driveS 80 ?_
  simp only [go_sem, v15_2, p1, hl, hlk]
  refine run_tmps (l := tm15 k 0 (.exact 11)) (by simp only [go_sem, tm15, forg, true_or, or_true]) ?_
  refine f15_loop v k l r L R hk hl hr hlk hrk hL hR hlr hrr hLf hRf (fun kd c hc => ?_) k 0 .rw (.exact 11) (by omega) (.inl ⟨rfl, rfl⟩)
  have l1 := frow_len k b4
  have l2 := frow_known k b4
  have l3 := frow_one k b4
  have l4 := frow_take k b4
  have ne := fun O X tm ht => f15_end (G := G) v k l r L R hk O X tm ht hQ
  obtain ⟨N, hN⟩ : ∃ N, N = 11 + 2 * k := ⟨_, rfl⟩
  have a1 : ((N + 2) * 16 ≤ 140737488355328) = True := eq_true (by omega)
  have a2 : (N ≤ 9223372036854775805) = True := eq_true (by omega)
  have a3 : (N + 2 ≤ N) = False := eq_false (by omega)
  have a4 : N + 2 = 13 + 2 * k := by omega
  unfold tm15 hp15
  rw [← hN] at hc ne ⊢
  refine run_driveS 80 ?_
  simp only [go_sem, ]
  refine run_drw (by kernel_rfl) ?_
  refine drun_drive 40 (p := (_, _)) ?_
  simp only [go_sem, v15_10, restore, Option.join_some, maskH, List.mapIdx_cons, List.mapIdx_nil, List.contains_cons, List.contains_nil, Bool.or_false, Bool.or_true, Bool.false_or, Bool.true_or, Nat.reduceBEq]
  refine drun_call' ?_
  simp only [go_sem, calV, restore, Option.join_some, maskH, List.mapIdx_cons, List.mapIdx_nil, List.contains_cons, List.contains_nil, Bool.or_false, Bool.or_true, Bool.false_or, Bool.true_or, Nat.reduceBEq]
  refine numb_at 0 _ (by simp) ?_
  refine drun_drive 40 (p := (_, _)) ?_
  simp only [go_sem, restore, Option.join_some, maskH, List.mapIdx_cons, List.mapIdx_nil, List.contains_cons, List.contains_nil, Bool.or_false, Bool.or_true, Bool.false_or, Bool.true_or, Nat.reduceBEq]
  refine drun_call' ?_
  simp only [go_sem, calV, restore, Option.join_some, maskH, List.mapIdx_cons, List.mapIdx_nil, List.contains_cons, List.contains_nil, Bool.or_false, Bool.or_true, Bool.false_or, Bool.true_or, Nat.reduceBEq]
  refine numb_at 0 _ (by simp) ?_
  refine drun_drive 40 (p := (_, _)) ?_
  simp only [go_sem, restore, Option.join_some, maskH, List.mapIdx_cons, List.mapIdx_nil, List.contains_cons, List.contains_nil, Bool.or_false, Bool.or_true, Bool.false_or, Bool.true_or, Nat.reduceBEq]
  rcases hc with ⟨rfl, rfl⟩ | ⟨rfl, rfl⟩
  · refine drun_drive 40 (p := (_, _)) ?_
    simp only [go_sem, a1, a2, a3, l1, l2, l3, l4, restore, Option.join_some, maskH, List.mapIdx_cons, List.mapIdx_nil, List.contains_cons, List.contains_nil, Bool.or_false, Bool.or_true, Bool.false_or, Bool.true_or, Nat.reduceBEq]
    refine drun_end ?_
    exact ne _ _ _ (by rw [a4]; rfl)
  · refine drun_drive 40 (p := (_, _)) ?_
    simp only [go_sem, a1, a2, a3, l1, l2, l3, l4, restore, Option.join_some, maskH, List.mapIdx_cons, List.mapIdx_nil, List.contains_cons, List.contains_nil, Bool.or_false, Bool.or_true, Bool.false_or, Bool.true_or, Nat.reduceBEq]
    refine drun_end ?_
    exact ne _ _ _ (by rw [a4]; rfl)
end
end Go.Vs.Tryd
namespace Go.Vs.Tryd
open Go.Proofs
variable {G : Nat → List V}
set_option linter.unusedSimpArgs false
attribute [local go_sem] lenO_nils lenO_sl sliceAtV Int.sub_zero List.length_append List.all_append ge_iff_le gt_iff_lt Int.natCast_nonneg Int.toNat_natCast Nat.mul_one b_and_ll b_shr_ll b_mul_ll b_add_ll b_or_ll b_shl_ll pick_ll pick_lc pick_bb driveS stopV Option.isSome_some Option.isSome_none Kind.m Kind.w Kind.g look_ro look_rw look_grow drive stepV exo expo evs fillV isNil nilKind eqV eqL optA optM sliceAtV ev kn ldc stc splice appV srcV lenV setd wantV exitV rvs rv one List.length_cons List.length_nil List.cons_append List.nil_append List.append_nil List.replicate List.getD_cons_zero List.getD_cons_succ List.set_cons_zero List.set_cons_succ List.getElem?_cons_zero List.getElem?_cons_succ List.getElem?_nil List.take_succ_cons List.take_zero List.take_nil List.drop_succ_cons List.drop_zero List.drop_nil List.all_cons List.all_nil List.any_cons List.any_nil Bool.and_true Bool.true_and Bool.and_self Option.map_some Option.map_none Option.bind_some Option.some.injEq Nat.add_zero Nat.zero_add Int.toNat_zero Int.toNat_one Int.zero_add Int.add_zero if_true if_false ite_true ite_false and_true true_and and_self ne_eq not_false_eq_true not_true_eq_false decide_true decide_false Bool.false_eq_true Bool.not_true Bool.not_false beq_self_eq_true BEq.rfl Bool.not_eq_true Nat.le_refl Int.le_refl Nat.zero_le List.foldl List.map_cons List.map_nil Prod.mk.injEq Int.cast_ofNat_Int Int.zero_le_ofNat b_add_cc b_add_cl b_add_lc b_mul_cc b_mul_cl b_mul_lc b_sub_cc b_sub_cl b_sub_lc b_and_cc b_and_cl b_and_lc b_or_cc b_or_cl b_or_lc b_xor_cc b_xor_cl b_xor_lc b_andNot_cc b_andNot_cl b_andNot_lc b_shr_cc b_shr_cl b_shr_lc b_shl_cc b_shl_cl b_shl_lc b_lss b_leq b_gtr b_geq b_add_i b_sub_i b_mul_i beq_cc beq_cl beq_lc beq_ll b_quo_i b_rem_i neg_u64 wrap_i64 driveD stepD idsAt idOf maskH_nil restore_nil restore_mask List.filterMap_nil List.filterMap_cons VOp.looks VOp.makes exA cells_agg cells_int cells_bool cells_str cells_nilp cells_ptr cells_glob cells_nils cells_sl cells_nilf cells_fn cells_nili cells_ifc known_agg known_tup known_int known_bool known_str known_nilp known_ptr known_glob known_nils known_sl known_nilf known_fn known_nili known_ifc known_unk one_agg one_tup one_int one_bool one_str one_nilp one_ptr one_glob one_nils one_sl one_nilf one_fn one_nili one_ifc asK_int asN_int asB_bool asS_str asG_agg asT_tup true_or or_true false_or or_false
attribute [local go_sem ↓] lc_len lc_take lc_drop lc_known lc_one lc_rens lc_cells lw_known lw_agg lw_asG scs_known scs_one scs_len
attribute [local go_sem ↓] brow_len brow_known brow_one brow_rens bw_known bw_agg bw_cells bw_asG
attribute [local go_sem] lt_nat lt_natl lt_lnat lt_ll bool_tf bool_ft
set_option maxRecDepth 100000
set_option maxHeartbeats 4000000
def tgp (p a b k j : Nat) : V := if j < 11 then .ptr p (4 * j) else if j < 11 + 2 * k then (if (j - 11) % 2 = 0 then .ptr a (4 * ((j - 11) / 2)) else .ptr b (4 * ((j - 11) / 2))) else .ptr p (46 + 4 * (j - 11 - 2 * k))
def BXp (p a b k c j : Nat) : Option Blk := if j < c then some ⟨.rw, [tgp p a b k j]⟩ else none
theorem tgt_tgp (f : Nat → Nat) (k j : Nat) : ren f (tgt k j) = tgp (f 0) (f 1) (f 2) k j := by
  unfold tgt tgp
  split
  · rw [ren]
  · split
    · split
      · rw [ren]
      · rw [ren]
    · rw [ren]
theorem BX_ren (f : Nat → Nat) (k c j : Nat) : (BX k c j).map (renB f) = BXp (f 0) (f 1) (f 2) k c j := by
  unfold BX BXp
  split
  · rw [Option.map_some, renB, rens, rens, tgt_tgp]
  · rfl
theorem tgp_ren (f : Nat → Nat) {p a b : Nat} (h0 : f p = p) (h1 : f a = a) (h2 : f b = b) (k j : Nat) : ren f (tgp p a b k j) = tgp p a b k j := by
  unfold tgp
  split
  · rw [ren, h0]
  · split
    · split
      · rw [ren, h1]
      · rw [ren, h2]
    · rw [ren, h0]
theorem BXp_keep {f : Nat → Nat} {p a b : Nat} (h0 : f p = p) (h1 : f a = a) (h2 : f b = b) (k c j : Nat) : bfit f (BXp p a b k c j) (BXp p a b k c j) := by
  unfold BXp
  split
  · exact bfit_g (by rw [rens, rens, tgp_ren f h0 h1 h2])
  · trivial
def fval (v lv rv : Nat → Nat) (k j : Nat) : Nat := if j < 11 then v j else if j < 11 + 2 * k then (if (j - 11) % 2 = 0 then lv ((j - 11) / 2) else rv ((j - 11) / 2)) else v (j - 2 * k)
def lw_ (k j : Nat) : Nat := if isE k j then 37 else 41
def lr_ (k j : Nat) : Nat := if isE k j then 38 else 43
theorem fcell_eq (k : Nat) (b : Nat → Nat) (j : Nat) : fcell k b j = [.fn (.func (lw_ k j)) [] [.ptr (b j) 0], .fn (.func (lr_ k j)) [] [.ptr (b j) 0]] := by
  unfold fcell lw_ lr_
  split <;> rfl
theorem scs_at (n : Nat) (f : Nat → Nat) {i : Nat} (h : i < n) : ((scs n f).drop (4 * i)).take 4 = lc (f i) := by
  rw [Nat.mul_comm]
  exact row_get' (fun j => lc_len (f j)) h
theorem pc_num (v : Nat → Nat) (l r : V) {j : Nat} (h : j < 11) : ((pc v l r).drop (4 * j)).take 4 = lc (v j) := by
  match j, h with
  | 0, _ => rfl
  | 1, _ => rfl
  | 2, _ => rfl
  | 3, _ => rfl
  | 4, _ => rfl
  | 5, _ => rfl
  | 6, _ => rfl
  | 7, _ => rfl
  | 8, _ => rfl
  | 9, _ => rfl
  | 10, _ => rfl
theorem pc_e0 (v : Nat → Nat) (l r : V) : ((pc v l r).drop 46).take 4 = lc (v 11) := rfl
theorem pc_e1 (v : Nat → Nat) (l r : V) : ((pc v l r).drop 50).take 4 = lc (v 12) := rfl
theorem pc_fitu (v : Nat → Nat) (l r : V) (f : Nat → Nat) : fit f (pc v .unk .unk) (pc v l r) := fit_append f (scs_fit ..) ⟨.inl rfl, .inl rfl, scs_fit ..⟩
theorem write_f (hG : G 3 = tbl) (F A o : Nat) (hF : F = 37 ∨ F = 41) (hA : A < 115792089237316195423570985008687907853269984665640564039457584007913129639936) (cells : List V) (hc : (cells.drop o).take 4 = lc A) (Q : V → Heap → Prop) (hQ : Q (bw (enc (A % ell))) [none, none]) :
    VCall Tryd.prog G F [.ptr 0 0] [some ⟨.ro, [.ptr 1 o]⟩, some ⟨.ro, cells⟩] Q := by
  rcases hF with rfl | rfl
  · exact write_e hG A o hA cells hc Q hQ
  · exact write_n hG A o hA cells hc Q hQ
theorem write_at (hG : G 3 = tbl) {F A o x y : Nat} (hF : F = 37 ∨ F = 41) (hA : A < 115792089237316195423570985008687907853269984665640564039457584007913129639936) {cells : List V} (hc : (cells.drop o).take 4 = lc A) {cells2 : List V} {kd : Kind} (hk : kd.m = true) {h : Heap} (hx : h[x]? = some (some ⟨.rw, [.ptr y o]⟩)) (hy : h[y]? = some (some ⟨kd, cells2⟩)) (hr : ∀ f, fit f cells cells2) {R : V → Heap → Prop} (hR : R (bw (enc (A % ell))) h) :
    VCall Tryd.prog G F [.ptr x 0] h R := by
  refine vcall_at (write_f hG F A o hF hA cells hc (fun v k => v = bw (enc (A % ell)) ∧ k = [none, none]) ⟨rfl, rfl⟩) [x, y] ?_ ?_ (by simp [uniq, wrB]) (by simp only [rens, ren, gmap]) ?_
  · intro i hi
    simp only [List.mem_cons, List.not_mem_nil, or_false] at hi
    rcases hi with rfl | rfl
    · exact (List.getElem?_eq_some_iff.1 hx).1
    · exact (List.getElem?_eq_some_iff.1 hy).1
  · exact hfit_cons hx (bfit_ro (by simp only [rens, ren, gmap])) (hfit_cons hy ⟨.inr ⟨rfl, hk⟩, hr _⟩ hfit_nil)
  rintro v k ⟨rfl, rfl⟩
  simp only [puts, wrB, Bool.false_eq_true, if_false, List.map_nil, List.append_nil, bw_plain]
  exact hR
def hpE (v : Nat → Nat) (k : Nat) (l r : V) (L R O : Option Blk) : Heap := [none, L, R, some ⟨.rw, pc v l r⟩, some ⟨.grow, frow k (fun j => 5 + j) (13 + 2 * k)⟩, BXp 3 1 2 k (13 + 2 * k) 0, BXp 3 1 2 k (13 + 2 * k) 1, BXp 3 1 2 k (13 + 2 * k) 2, BXp 3 1 2 k (13 + 2 * k) 3, BXp 3 1 2 k (13 + 2 * k) 4, BXp 3 1 2 k (13 + 2 * k) 5, BXp 3 1 2 k (13 + 2 * k) 6, BXp 3 1 2 k (13 + 2 * k) 7, BXp 3 1 2 k (13 + 2 * k) 8, BXp 3 1 2 k (13 + 2 * k) 9, BXp 3 1 2 k (13 + 2 * k) 10, BXp 3 1 2 k (13 + 2 * k) 11, BXp 3 1 2 k (13 + 2 * k) 12, BXp 3 1 2 k (13 + 2 * k) 13, BXp 3 1 2 k (13 + 2 * k) 14, BXp 3 1 2 k (13 + 2 * k) 15, BXp 3 1 2 k (13 + 2 * k) 16, BXp 3 1 2 k (13 + 2 * k) 17, BXp 3 1 2 k (13 + 2 * k) 18, BXp 3 1 2 k (13 + 2 * k) 19, BXp 3 1 2 k (13 + 2 * k) 20, BXp 3 1 2 k (13 + 2 * k) 21, BXp 3 1 2 k (13 + 2 * k) 22, BXp 3 1 2 k (13 + 2 * k) 23, BXp 3 1 2 k (13 + 2 * k) 24, BXp 3 1 2 k (13 + 2 * k) 25, BXp 3 1 2 k (13 + 2 * k) 26, BXp 3 1 2 k (13 + 2 * k) 27, BXp 3 1 2 k (13 + 2 * k) 28, BXp 3 1 2 k (13 + 2 * k) 29, BXp 3 1 2 k (13 + 2 * k) 30, BXp 3 1 2 k (13 + 2 * k) 31, BXp 3 1 2 k (13 + 2 * k) 32, O]
def tmE (k i : Nat) (O : V) : List V := [.unk, .ptr 3 0, .unk, .unk, O] ++ List.replicate 16 .unk ++ [.sl 4 0 (13 + 2 * k) (.grow 2), .int .i64 (13 + 2 * k : Nat), .int .i64 i] ++ List.replicate 11 .unk
def encF (A : Nat → Nat) (j : Nat) : Nat := enc (A (j / 32) % ell) (j % 32)
theorem encF_snoc (A : Nat → Nat) (i : Nat) : brow (32 * i) (encF A) ++ brow 32 (enc (A i % ell)) = brow (32 * (i + 1)) (encF A) := by
  rw [brow_app]
  refine brow_congr fun j hj => ?_
  by_cases h : j < 32 * i
  · rw [if_pos h]
  · rw [if_neg h]
    unfold encF
    rw [show j / 32 = i by omega, show j - 32 * i = j % 32 by omega]
section
variable (v lv rv : Nat → Nat) (k : Nat) (l r : V) (L R : Option Blk)
theorem hpE_at (O : Option Blk) (X : Heap) : ∀ {i : Nat}, i < 33 → (hpE v k l r L R O ++ X)[5 + i]? = some (BXp 3 1 2 k (13 + 2 * k) i)
  | 0, _ => rfl
  | 1, _ => rfl
  | 2, _ => rfl
  | 3, _ => rfl
  | 4, _ => rfl
  | 5, _ => rfl
  | 6, _ => rfl
  | 7, _ => rfl
  | 8, _ => rfl
  | 9, _ => rfl
  | 10, _ => rfl
  | 11, _ => rfl
  | 12, _ => rfl
  | 13, _ => rfl
  | 14, _ => rfl
  | 15, _ => rfl
  | 16, _ => rfl
  | 17, _ => rfl
  | 18, _ => rfl
  | 19, _ => rfl
  | 20, _ => rfl
  | 21, _ => rfl
  | 22, _ => rfl
  | 23, _ => rfl
  | 24, _ => rfl
  | 25, _ => rfl
  | 26, _ => rfl
  | 27, _ => rfl
  | 28, _ => rfl
  | 29, _ => rfl
  | 30, _ => rfl
  | 31, _ => rfl
  | 32, _ => rfl
  | n + 33, h => absurd h (by omega)
theorem wr_at (hG : G 3 = tbl) (hv : ∀ j, v j < 115792089237316195423570985008687907853269984665640564039457584007913129639936) (hlv : ∀ j, lv j < 115792089237316195423570985008687907853269984665640564039457584007913129639936) (hrv : ∀ j, rv j < 115792089237316195423570985008687907853269984665640564039457584007913129639936) (hlr : ∀ f : Nat → Nat, f 1 = 1 → ren f l = l) (hrr : ∀ f : Nat → Nat, f 2 = 2 → ren f r = r) (hL : 0 < k → L = some ⟨.ro, scs k lv⟩) (hR : 0 < k → R = some ⟨.ro, scs k rv⟩) (hk : k ≤ 10) {i : Nat} (hi : i < 13 + 2 * k) {O : Option Blk} {X : Heap} {Q : V → Heap → Prop} (hQ : Q (bw (enc (fval v lv rv k i % ell))) (hpE v k l r L R O ++ X)) :
    VCall Tryd.prog G (lw_ k i) [.ptr (5 + i) 0] (hpE v k l r L R O ++ X) Q := by
  have hF : lw_ k i = 37 ∨ lw_ k i = 41 := by unfold lw_; split; exact .inl rfl; exact .inr rfl
  have hb : (hpE v k l r L R O ++ X)[5 + i]? = some (some ⟨.rw, [tgp 3 1 2 k i]⟩) := by
    rw [hpE_at v k l r L R O X (by omega), BXp, if_pos hi]
  unfold tgp at hb
  unfold fval at hQ
  by_cases h1 : i < 11
  · rw [if_pos h1] at hb hQ
    exact write_at hG hF (hv _) (pc_num v .unk .unk h1) (kd := .rw) rfl hb rfl (pc_fitu v l r) hQ
  · rw [if_neg h1] at hb hQ
    by_cases h2 : i < 11 + 2 * k
    · rw [if_pos h2] at hb hQ
      by_cases h3 : (i - 11) % 2 = 0
      · rw [if_pos h3] at hb hQ
        exact write_at hG hF (hlv _) (scs_at k lv (by omega)) (kd := .ro) rfl hb (by rw [← hL (by omega)]; rfl) (fun _ => scs_fit ..) hQ
      · rw [if_neg h3] at hb hQ
        exact write_at hG hF (hrv _) (scs_at k rv (by omega)) (kd := .ro) rfl hb (by rw [← hR (by omega)]; rfl) (fun _ => scs_fit ..) hQ
    · rw [if_neg h2] at hb hQ
      obtain h4 | h4 : i = 11 + 2 * k ∨ i = 12 + 2 * k := by omega
      · rw [show 46 + 4 * (i - 11 - 2 * k) = 46 by omega] at hb
        rw [show i - 2 * k = 11 by omega] at hQ
        exact write_at hG hF (hv _) (pc_e0 v .unk .unk) (kd := .rw) rfl hb rfl (pc_fitu v l r) hQ
      · rw [show 46 + 4 * (i - 11 - 2 * k) = 50 by omega] at hb
        rw [show i - 2 * k = 12 by omega] at hQ
        exact write_at hG hF (hv _) (pc_e1 v .unk .unk) (kd := .rw) rfl hb rfl (pc_fitu v l r) hQ
end
end Go.Vs.Tryd
namespace Go.Vs.Tryd
open Go.Proofs
variable {G : Nat → List V}
set_option linter.unusedSimpArgs false
attribute [local go_sem] lenO_nils lenO_sl sliceAtV Int.sub_zero List.length_append List.all_append ge_iff_le gt_iff_lt Int.natCast_nonneg Int.toNat_natCast Nat.mul_one b_and_ll b_shr_ll b_mul_ll b_add_ll b_or_ll b_shl_ll pick_ll pick_lc pick_bb driveS stopV Option.isSome_some Option.isSome_none Kind.m Kind.w Kind.g look_ro look_rw look_grow drive stepV exo expo evs fillV isNil nilKind eqV eqL optA optM sliceAtV ev kn ldc stc splice appV srcV lenV setd wantV exitV rvs rv one List.length_cons List.length_nil List.cons_append List.nil_append List.append_nil List.replicate List.getD_cons_zero List.getD_cons_succ List.set_cons_zero List.set_cons_succ List.getElem?_cons_zero List.getElem?_cons_succ List.getElem?_nil List.take_succ_cons List.take_zero List.take_nil List.drop_succ_cons List.drop_zero List.drop_nil List.all_cons List.all_nil List.any_cons List.any_nil Bool.and_true Bool.true_and Bool.and_self Option.map_some Option.map_none Option.bind_some Option.some.injEq Nat.add_zero Nat.zero_add Int.toNat_zero Int.toNat_one Int.zero_add Int.add_zero if_true if_false ite_true ite_false and_true true_and and_self ne_eq not_false_eq_true not_true_eq_false decide_true decide_false Bool.false_eq_true Bool.not_true Bool.not_false beq_self_eq_true BEq.rfl Bool.not_eq_true Nat.le_refl Int.le_refl Nat.zero_le List.foldl List.map_cons List.map_nil Prod.mk.injEq Int.cast_ofNat_Int Int.zero_le_ofNat b_add_cc b_add_cl b_add_lc b_mul_cc b_mul_cl b_mul_lc b_sub_cc b_sub_cl b_sub_lc b_and_cc b_and_cl b_and_lc b_or_cc b_or_cl b_or_lc b_xor_cc b_xor_cl b_xor_lc b_andNot_cc b_andNot_cl b_andNot_lc b_shr_cc b_shr_cl b_shr_lc b_shl_cc b_shl_cl b_shl_lc b_lss b_leq b_gtr b_geq b_add_i b_sub_i b_mul_i beq_cc beq_cl beq_lc beq_ll b_quo_i b_rem_i neg_u64 wrap_i64 driveD stepD idsAt idOf maskH_nil restore_nil restore_mask List.filterMap_nil List.filterMap_cons VOp.looks VOp.makes exA cells_agg cells_int cells_bool cells_str cells_nilp cells_ptr cells_glob cells_nils cells_sl cells_nilf cells_fn cells_nili cells_ifc known_agg known_tup known_int known_bool known_str known_nilp known_ptr known_glob known_nils known_sl known_nilf known_fn known_nili known_ifc known_unk one_agg one_tup one_int one_bool one_str one_nilp one_ptr one_glob one_nils one_sl one_nilf one_fn one_nili one_ifc asK_int asN_int asB_bool asS_str asG_agg asT_tup true_or or_true false_or or_false
attribute [local go_sem_proc] Nat.reduceAdd Nat.reduceSub Nat.reduceLeDiff Nat.reduceMul Nat.reduceLT Nat.reduceEqDiff Int.reduceLT Int.reduceLE Int.reduceAdd Int.reduceSub Int.reduceMul Int.reduceToNat reduceIte reduceCtorEq Nat.reduceBEq
attribute [local go_sem ↓] lc_len lc_take lc_drop lc_known lc_one lc_rens lc_cells lw_known lw_agg lw_asG scs_known scs_one scs_len
attribute [local go_sem ↓] brow_len brow_known brow_one brow_rens bw_known bw_agg bw_cells bw_asG
attribute [local go_sem] lt_nat lt_natl lt_lnat lt_ll bool_tf bool_ft
set_option maxRecDepth 100000
set_option maxHeartbeats 4000000
section
variable (v lv rv : Nat → Nat) (k : Nat) (l r : V) (L R : Option Blk)
theorem pc_rens (hlr : ∀ f : Nat → Nat, f 1 = 1 → ren f l = l) (hrr : ∀ f : Nat → Nat, f 2 = 2 → ren f r = r) (f : Nat → Nat) (h1 : f 1 = 1) (h2 : f 2 = 2) : rens f (pc v l r) = pc v l r := by unfold pc; simp only [rens_append, scs_rens, rens, hlr f h1, hrr f h2]
theorem e5_next {A : Nat → Nat} {Q : V → Heap → Prop} {K : List TI} (hlr : ∀ f : Nat → Nat, f 1 = 1 → ren f l = l) (hrr : ∀ f : Nat → Nat, f 2 = 2 → ren f r = r) (hLf : ∀ f, bfit f L L) (hRf : ∀ f, bfit f R R) (hk : k ≤ 10) (i : Nat) (tm : List V) (X Y : Option Blk) (ht : ∀ f : Nat → Nat, f 3 = 3 → f 4 = 4 → f 38 = 41 → fit f (tmE k (i + 1) (.sl 38 0 (32 * (i + 1)) (.grow 1))) tm)
    (ih : Run Tryd.prog G 5 3 Q (K, ⟨tmE k (i + 1) (.sl 38 0 (32 * (i + 1)) (.grow 1)), hpE v k l r L R (some ⟨.grow, brow (32 * (i + 1)) (encF A)⟩)⟩)) :
    Run Tryd.prog G 5 3 Q (K, ⟨tm, hpE v k l r L R none ++ [X, Y, some ⟨.grow, brow (32 * (i + 1)) (encF A)⟩]⟩) := by
  unfold hpE at ih ⊢
  refine run_rename [0, 1, 2, 3, 4, 5, 6, 7, 8, 9, 10, 11, 12, 13, 14, 15, 16, 17, 18, 19, 20, 21, 22, 23, 24, 25, 26, 27, 28, 29, 30, 31, 32, 33, 34, 35, 36, 37, 41] rfl (by simp) ?_ (uniq_nodup (by decide +kernel)) (ht _ rfl rfl rfl) ih
  exact hfit_cons_none (hfit_cons rfl (hLf _) (hfit_cons rfl (hRf _) (hfit_cons rfl (bfit_g (pc_rens v l r hlr hrr _ rfl rfl)) (hfit_cons rfl (bfit_g (frow_ren k _ _ _ _ (fun j hj => gmap_pre 38 [41] (by decide +kernel) (by omega)))) (hfit_cons rfl (BXp_keep rfl rfl rfl k _ 0) (hfit_cons rfl (BXp_keep rfl rfl rfl k _ 1) (hfit_cons rfl (BXp_keep rfl rfl rfl k _ 2) (hfit_cons rfl (BXp_keep rfl rfl rfl k _ 3) (hfit_cons rfl (BXp_keep rfl rfl rfl k _ 4) (hfit_cons rfl (BXp_keep rfl rfl rfl k _ 5) (hfit_cons rfl (BXp_keep rfl rfl rfl k _ 6) (hfit_cons rfl (BXp_keep rfl rfl rfl k _ 7) (hfit_cons rfl (BXp_keep rfl rfl rfl k _ 8) (hfit_cons rfl (BXp_keep rfl rfl rfl k _ 9) (hfit_cons rfl (BXp_keep rfl rfl rfl k _ 10) (hfit_cons rfl (BXp_keep rfl rfl rfl k _ 11) (hfit_cons rfl (BXp_keep rfl rfl rfl k _ 12) (hfit_cons rfl (BXp_keep rfl rfl rfl k _ 13) (hfit_cons rfl (BXp_keep rfl rfl rfl k _ 14) (hfit_cons rfl (BXp_keep rfl rfl rfl k _ 15) (hfit_cons rfl (BXp_keep rfl rfl rfl k _ 16) (hfit_cons rfl (BXp_keep rfl rfl rfl k _ 17) (hfit_cons rfl (BXp_keep rfl rfl rfl k _ 18) (hfit_cons rfl (BXp_keep rfl rfl rfl k _ 19) (hfit_cons rfl (BXp_keep rfl rfl rfl k _ 20) (hfit_cons rfl (BXp_keep rfl rfl rfl k _ 21) (hfit_cons rfl (BXp_keep rfl rfl rfl k _ 22) (hfit_cons rfl (BXp_keep rfl rfl rfl k _ 23) (hfit_cons rfl (BXp_keep rfl rfl rfl k _ 24) (hfit_cons rfl (BXp_keep rfl rfl rfl k _ 25) (hfit_cons rfl (BXp_keep rfl rfl rfl k _ 26) (hfit_cons rfl (BXp_keep rfl rfl rfl k _ 27) (hfit_cons rfl (BXp_keep rfl rfl rfl k _ 28) (hfit_cons rfl (BXp_keep rfl rfl rfl k _ 29) (hfit_cons rfl (BXp_keep rfl rfl rfl k _ 30) (hfit_cons rfl (BXp_keep rfl rfl rfl k _ 31) (hfit_cons rfl (BXp_keep rfl rfl rfl k _ 32) (hfit_cons rfl (bfit_g (brow_rens ..)) hfit_nil))))))))))))))))))))))))))))))))))))))
theorem e5_loop (hG : G 3 = tbl) (hv : ∀ j, v j < 115792089237316195423570985008687907853269984665640564039457584007913129639936) (hlv : ∀ j, lv j < 115792089237316195423570985008687907853269984665640564039457584007913129639936) (hrv : ∀ j, rv j < 115792089237316195423570985008687907853269984665640564039457584007913129639936) (hlk : l.known = true) (hrk : r.known = true) (hlr : ∀ f : Nat → Nat, f 1 = 1 → ren f l = l) (hrr : ∀ f : Nat → Nat, f 2 = 2 → ren f r = r) (hLf : ∀ f, bfit f L L) (hRf : ∀ f, bfit f R R) (hL : 0 < k → L = some ⟨.ro, scs k lv⟩) (hR : 0 < k → R = some ⟨.ro, scs k rv⟩) (hk : k ≤ 10) {Q : V → Heap → Prop} {K : List TI}
    (hQ : Run Tryd.prog G 5 3 Q (K, ⟨tmE k (13 + 2 * k) (.sl 38 0 (32 * (13 + 2 * k)) (.grow 1)), hpE v k l r L R (some ⟨.grow, brow (32 * (13 + 2 * k)) (encF (fval v lv rv k))⟩)⟩)) : ∀ m i oV oB, i + m = 13 + 2 * k → (i = 0 ∧ oV = .nils ∧ oB = none) ∨ (0 < i ∧ oV = .sl 38 0 (32 * i) (.grow 1) ∧ oB = some ⟨.grow, brow (32 * i) (encF (fval v lv rv k))⟩) →
    Run Tryd.prog G 5 3 Q (.l v5_11 :: .b 0 :: K, ⟨tmE k i oV, hpE v k l r L R oB⟩)
  | 0, i, oV, oB, e, hc => by
    obtain rfl : i = 13 + 2 * k := by omega
    obtain ⟨_, rfl, rfl⟩ : 0 < 13 + 2 * k ∧ _ ∧ _ := by
      rcases hc with ⟨h, _⟩ | h
      · omega
      · exact h
    have h0 : (((13 + 2 * k : Nat) : Int) < ((13 + 2 * k : Nat) : Int)) = False := eq_false (by omega)
    unfold tmE hpE at hQ ⊢
    refine run_loop_eq v5_11.eq_1 ?_
    refine run_driveS 80 ?_
    simp only [go_sem, v5_5, h0]
    refine run_exit rfl ?_
    refine run_tmps ?_ hQ
    simp only [go_sem, forg, true_or, or_true]
  | m + 1, i, oV, oB, e, hc => by
    have ih := e5_loop hG hv hlv hrv hlk hrk hlr hrr hLf hRf hL hR hk hQ m (i + 1) _ _ (by omega) (.inr ⟨by omega, rfl, rfl⟩)
    have nx := e5_next v k l r L R hlr hrr hLf hRf hk i (A := fval v lv rv k) (G := G) (Q := Q) (K := .l v5_11 :: .b 0 :: K)
    have hi : i < 13 + 2 * k := by omega
    have h0 : ((i : Int) < ((13 + 2 * k : Nat) : Int)) = True := eq_true (by omega)
    have g1 : ((frow k (fun j => 5 + j) (13 + 2 * k)).drop (i * 2)).take 2 = [.fn (.func (lw_ k i)) [] [.ptr (5 + i) 0], .fn (.func (lr_ k i)) [] [.ptr (5 + i) 0]] := by rw [frow_get k _ hi, fcell_eq]
    have g2 := encF_snoc (fval v lv rv k) i
    have l1 := frow_len k (fun j => 5 + j)
    have a1 : (32 * i + 32 ≤ 140737488355328) = True := eq_true (by omega)
    have a2 : (32 * i + 32 ≤ 9223372036854775807) = True := eq_true (by omega)
    have a2' : (32 * i ≤ 9223372036854775775) = True := eq_true (by omega)
    have hw : IntKind.i64.wrap ((i : Int) + 1) = ((i + 1 : Nat) : Int) := by rw [wrap_i64 (by omega) (by omega)]; omega
    unfold tmE
    show Run _ _ _ _ _ (_, ⟨_, [none, L, R, some ⟨.rw, pc v l r⟩, some ⟨.grow, frow k (fun j => 5 + j) (13 + 2 * k)⟩, BXp 3 1 2 k (13 + 2 * k) 0, BXp 3 1 2 k (13 + 2 * k) 1, BXp 3 1 2 k (13 + 2 * k) 2, BXp 3 1 2 k (13 + 2 * k) 3, BXp 3 1 2 k (13 + 2 * k) 4, BXp 3 1 2 k (13 + 2 * k) 5, BXp 3 1 2 k (13 + 2 * k) 6, BXp 3 1 2 k (13 + 2 * k) 7, BXp 3 1 2 k (13 + 2 * k) 8, BXp 3 1 2 k (13 + 2 * k) 9, BXp 3 1 2 k (13 + 2 * k) 10, BXp 3 1 2 k (13 + 2 * k) 11, BXp 3 1 2 k (13 + 2 * k) 12, BXp 3 1 2 k (13 + 2 * k) 13, BXp 3 1 2 k (13 + 2 * k) 14, BXp 3 1 2 k (13 + 2 * k) 15, BXp 3 1 2 k (13 + 2 * k) 16, BXp 3 1 2 k (13 + 2 * k) 17, BXp 3 1 2 k (13 + 2 * k) 18, BXp 3 1 2 k (13 + 2 * k) 19, BXp 3 1 2 k (13 + 2 * k) 20, BXp 3 1 2 k (13 + 2 * k) 21, BXp 3 1 2 k (13 + 2 * k) 22, BXp 3 1 2 k (13 + 2 * k) 23, BXp 3 1 2 k (13 + 2 * k) 24, BXp 3 1 2 k (13 + 2 * k) 25, BXp 3 1 2 k (13 + 2 * k) 26, BXp 3 1 2 k (13 + 2 * k) 27, BXp 3 1 2 k (13 + 2 * k) 28, BXp 3 1 2 k (13 + 2 * k) 29, BXp 3 1 2 k (13 + 2 * k) 30, BXp 3 1 2 k (13 + 2 * k) 31, BXp 3 1 2 k (13 + 2 * k) 32, oB]⟩)
    refine run_loop_eq v5_11.eq_1 ?_
    refine run_driveS 80 ?_
    simp only [go_sem, v5_5, v5_9, v5_6, h0, g1, l1]
    refine run_driveS 80 ?_
    simp only [go_sem, v5_7]
    refine run_call' rfl ?_
    simp only [go_sem, calV]
    refine wr_at v lv rv k l r L R hG hv hlv hrv hlr hrr hL hR hk hi (O := oB) (X := [some ⟨.rw, [.fn (.func (lw_ k i)) [] [.ptr (5 + i) 0], .fn (.func (lr_ k i)) [] [.ptr (5 + i) 0]]⟩]) ?_
    unfold hpE
    rcases hc with ⟨rfl, rfl, rfl⟩ | ⟨h3, rfl, rfl⟩
    · have hw0 : IntKind.i64.wrap 1 = 1 := by decide
      refine run_driveS 80 ?_
      simp only [go_sem, v5_8, v5_10, brow_take, brow_drop32, zero32, Nat.mul_one, hw0]
      have e32 : brow 32 (enc (fval v lv rv k 0 % ell)) = brow (32 * (0 + 1)) (encF (fval v lv rv k)) := by
        rw [show brow (32 * 0) (encF (fval v lv rv k)) = [] from rfl, List.nil_append] at g2
        exact g2
      rw [e32]
      exact nx _ _ _ (fun f h3 h4 h38 => by simp only [go_sem, tmE, fit, ren, h3, h4, h38, true_or, or_true]) ih
    · refine run_driveS 80 ?_
      simp only [go_sem, v5_8, v5_10, brow_take, brow_drop32, zero32, Nat.mul_one, a1, a2, a2', hw]
      rw [g2]
      exact nx _ _ _ (fun f h3 h4 h38 => by simp only [go_sem, tmE, fit, ren, h3, h4, h38, true_or, or_true, Nat.mul_add, Nat.mul_one]) ih
theorem pc_known (hlk : l.known = true) (hrk : r.known = true) : (pc v l r).all V.known = true := by
  unfold pc
  rw [List.all_append, List.all_cons, List.all_cons, scs_known, scs_known, hlk, hrk]
  rfl
theorem encode_ok (hG : G 3 = tbl) (hv : ∀ j, v j < 115792089237316195423570985008687907853269984665640564039457584007913129639936) (hlv : ∀ j, lv j < 115792089237316195423570985008687907853269984665640564039457584007913129639936) (hrv : ∀ j, rv j < 115792089237316195423570985008687907853269984665640564039457584007913129639936) (hl : lenO l = some k) (hr : lenO r = some k) (hlk : l.known = true) (hrk : r.known = true) (hlr : ∀ f : Nat → Nat, f 1 = 1 → ren f l = l) (hrr : ∀ f : Nat → Nat, f 2 = 2 → ren f r = r) (hLf : ∀ f, bfit f L L) (hRf : ∀ f, bfit f R R) (hLw : wrB L = false) (hRw : wrB R = false) (hls : 0 < k → ∃ c, l = .sl 1 0 k c) (hrs : 0 < k → ∃ c, r = .sl 2 0 k c) (hL : 0 < k → L = some ⟨.ro, scs k lv⟩) (hR : 0 < k → R = some ⟨.ro, scs k rv⟩) (hk : k ≤ 10) {Q : V → Heap → Prop}
    (hQ : Q (.tup [.sl 3 0 (32 * (13 + 2 * k)) (.grow 1), .int .i64 0]) [none, none, none, some ⟨.grow, brow (32 * (13 + 2 * k)) (encF (fval v lv rv k))⟩]) : VCall Tryd.prog G 5 [.agg (pc v l r)] [none, L, R] Q := by
  have p0 := pc_known v l r hlk hrk
  have p1 := pc_l v l r
  have p2 := pc_r v l r
  have p3 := pc_len v l r
  have c1 : ((10 : Int) < (k : Int)) = False := eq_false (by omega)
  have f1 : gmap [3, 1, 2] 4 0 = 3 := rfl
  have f2 : gmap [3, 1, 2] 4 1 = 1 := rfl
  have f3 : gmap [3, 1, 2] 4 2 = 2 := rfl
  refine vcall_body Tryd.func5 nm5 code5 nt5 ?_
  refine run_driveS 80 ?_
  simp only [go_sem, v5, v5_0, v5_1, p0, p1, p2, p3, hl, hr, hlk, hrk, c1]
  refine run_cond_f (by rfl) ?_
  refine run_driveS 80 ?_
  simp only [go_sem, v5_3, v5_4, p0, p1, p2, p3]
  refine run_call' rfl ?_
  simp only [go_sem, calV]
  refine vcall_at (Q := fun w h => w = .sl 3 0 (13 + 2 * k) (.grow 2) ∧ h = [none, none, none, some ⟨.grow, frow k b4 (13 + 2 * k)⟩, BX k (13 + 2 * k) 0, BX k (13 + 2 * k) 1, BX k (13 + 2 * k) 2, BX k (13 + 2 * k) 3, BX k (13 + 2 * k) 4, BX k (13 + 2 * k) 5, BX k (13 + 2 * k) 6, BX k (13 + 2 * k) 7, BX k (13 + 2 * k) 8, BX k (13 + 2 * k) 9, BX k (13 + 2 * k) 10, BX k (13 + 2 * k) 11, BX k (13 + 2 * k) 12, BX k (13 + 2 * k) 13, BX k (13 + 2 * k) 14, BX k (13 + 2 * k) 15, BX k (13 + 2 * k) 16, BX k (13 + 2 * k) 17, BX k (13 + 2 * k) 18, BX k (13 + 2 * k) 19, BX k (13 + 2 * k) 20, BX k (13 + 2 * k) 21, BX k (13 + 2 * k) 22, BX k (13 + 2 * k) 23, BX k (13 + 2 * k) 24, BX k (13 + 2 * k) 25, BX k (13 + 2 * k) 26, BX k (13 + 2 * k) 27, BX k (13 + 2 * k) 28, BX k (13 + 2 * k) 29, BX k (13 + 2 * k) 30, BX k (13 + 2 * k) 31, BX k (13 + 2 * k) 32]) (fields_fn v k l r L R hk hl hr hlk hrk hls hrs hlr hrr hLf hRf ⟨rfl, rfl⟩) [3, 1, 2] (by simp) ?_ ?_ ?_ ?_
  · exact hfit_cons rfl (bfit_ro (pc_rens v l r hlr hrr _ rfl rfl)) (hfit_cons rfl (hLf _) (hfit_cons rfl (hRf _) hfit_nil))
  · exact uniq_nodup (by decide)
  · simp only [rens, ren, gmap]
  rintro _ _ ⟨rfl, rfl⟩
  have w0 : wrB (some ⟨.ro, pc v l r⟩) = false := rfl
  simp only [puts, w0, hLw, hRw, Bool.false_eq_true, if_false, List.map_cons, List.map_nil, List.length_cons, List.length_nil, Nat.reduceAdd, BX_ren, f1, f2, f3, Option.map_some, renB, frow_ren k b4 (fun j => 5 + j) (gmap [3, 1, 2] 4) (13 + 2 * k) (fun j _ => by rw [gmap_ge (by show 3 ≤ 4 + j; omega)]; show 4 + (4 + j - 3) = 5 + j; omega), List.cons_append, List.nil_append]
  refine run_driveS 80 ?_
  simp only [go_sem]
  refine run_rename [0, 1, 2, 3, 4, 5, 6, 7, 8, 9, 10, 11, 12, 13, 14, 15, 16, 17, 18, 19, 20, 21, 22, 23, 24, 25, 26, 27, 28, 29, 30, 31, 32, 33, 34, 35, 36, 37, 38] (st' := ⟨tmE k 0 .nils, hpE v k l r L R none⟩) rfl (by simp) ?_ ?_ ?_ ?_
  · exact hfit_cons_none (hfit_cons rfl (hLf _) (hfit_cons rfl (hRf _) (hfit_cons rfl (bfit_g (pc_rens v l r hlr hrr _ rfl rfl)) (hfit_cons rfl (bfit_g (frow_ren k _ _ _ _ (fun j hj => gmap_pre 39 [] (by decide +kernel) (by omega)))) (hfit_cons rfl (BXp_keep rfl rfl rfl k _ 0) (hfit_cons rfl (BXp_keep rfl rfl rfl k _ 1) (hfit_cons rfl (BXp_keep rfl rfl rfl k _ 2) (hfit_cons rfl (BXp_keep rfl rfl rfl k _ 3) (hfit_cons rfl (BXp_keep rfl rfl rfl k _ 4) (hfit_cons rfl (BXp_keep rfl rfl rfl k _ 5) (hfit_cons rfl (BXp_keep rfl rfl rfl k _ 6) (hfit_cons rfl (BXp_keep rfl rfl rfl k _ 7) (hfit_cons rfl (BXp_keep rfl rfl rfl k _ 8) (hfit_cons rfl (BXp_keep rfl rfl rfl k _ 9) (hfit_cons rfl (BXp_keep rfl rfl rfl k _ 10) (hfit_cons rfl (BXp_keep rfl rfl rfl k _ 11) (hfit_cons rfl (BXp_keep rfl rfl rfl k _ 12) (hfit_cons rfl (BXp_keep rfl rfl rfl k _ 13) (hfit_cons rfl (BXp_keep rfl rfl rfl k _ 14) (hfit_cons rfl (BXp_keep rfl rfl rfl k _ 15) (hfit_cons rfl (BXp_keep rfl rfl rfl k _ 16) (hfit_cons rfl (BXp_keep rfl rfl rfl k _ 17) (hfit_cons rfl (BXp_keep rfl rfl rfl k _ 18) (hfit_cons rfl (BXp_keep rfl rfl rfl k _ 19) (hfit_cons rfl (BXp_keep rfl rfl rfl k _ 20) (hfit_cons rfl (BXp_keep rfl rfl rfl k _ 21) (hfit_cons rfl (BXp_keep rfl rfl rfl k _ 22) (hfit_cons rfl (BXp_keep rfl rfl rfl k _ 23) (hfit_cons rfl (BXp_keep rfl rfl rfl k _ 24) (hfit_cons rfl (BXp_keep rfl rfl rfl k _ 25) (hfit_cons rfl (BXp_keep rfl rfl rfl k _ 26) (hfit_cons rfl (BXp_keep rfl rfl rfl k _ 27) (hfit_cons rfl (BXp_keep rfl rfl rfl k _ 28) (hfit_cons rfl (BXp_keep rfl rfl rfl k _ 29) (hfit_cons rfl (BXp_keep rfl rfl rfl k _ 30) (hfit_cons rfl (BXp_keep rfl rfl rfl k _ 31) (hfit_cons rfl (BXp_keep rfl rfl rfl k _ 32) (hfit_cons_none hfit_nil))))))))))))))))))))))))))))))))))))))
  · exact uniq_nodup (by decide +kernel)
  · simp only [go_sem, tmE, fit, ren, gmap, true_or, or_true]
  refine e5_loop v lv rv k l r L R hG hv hlv hrv hlk hrk hlr hrr hLf hRf hL hR hk ?_ (13 + 2 * k) 0 .nils none (by omega) (.inl ⟨rfl, rfl, rfl⟩)
  unfold tmE hpE
  refine run_driveS 80 ?_
  simp only [go_sem, v5_13]
  refine run_ret_drop Tryd.func5 res5 [0, 1, 2, 38] _ _ rfl (by simp) ?_ ?_ ?_ hQ
  · exact hfit_cons_none (hfit_cons_none (hfit_cons_none (hfit_cons rfl (bfit_g (brow_rens ..)) hfit_nil)))
  · exact uniq_nodup (by decide +kernel)
  · simp only [go_sem, rr5, rens, ren, gmap]
end
end Go.Vs.Tryd
namespace Go.Vs.Tryd
open Go.Proofs
variable {G : Nat → List V}
set_option linter.unusedSimpArgs false
attribute [local go_sem] lenO_nils lenO_sl sliceAtV Int.sub_zero List.length_append List.all_append ge_iff_le gt_iff_lt Int.natCast_nonneg Int.toNat_natCast Nat.mul_one b_and_ll b_shr_ll b_mul_ll b_add_ll b_or_ll b_shl_ll pick_ll pick_lc pick_bb driveS stopV Option.isSome_some Option.isSome_none Kind.m Kind.w Kind.g look_ro look_rw look_grow drive stepV exo expo evs fillV isNil nilKind eqV eqL optA optM sliceAtV ev kn ldc stc splice appV srcV lenV setd wantV exitV rvs rv one List.length_cons List.length_nil List.cons_append List.nil_append List.append_nil List.replicate List.getD_cons_zero List.getD_cons_succ List.set_cons_zero List.set_cons_succ List.getElem?_cons_zero List.getElem?_cons_succ List.getElem?_nil List.take_succ_cons List.take_zero List.take_nil List.drop_succ_cons List.drop_zero List.drop_nil List.all_cons List.all_nil List.any_cons List.any_nil Bool.and_true Bool.true_and Bool.and_self Option.map_some Option.map_none Option.bind_some Option.some.injEq Nat.add_zero Nat.zero_add Int.toNat_zero Int.toNat_one Int.zero_add Int.add_zero if_true if_false ite_true ite_false and_true true_and and_self ne_eq not_false_eq_true not_true_eq_false decide_true decide_false Bool.false_eq_true Bool.not_true Bool.not_false beq_self_eq_true BEq.rfl Bool.not_eq_true Nat.le_refl Int.le_refl Nat.zero_le List.foldl List.map_cons List.map_nil Prod.mk.injEq Int.cast_ofNat_Int Int.zero_le_ofNat b_add_cc b_add_cl b_add_lc b_mul_cc b_mul_cl b_mul_lc b_sub_cc b_sub_cl b_sub_lc b_and_cc b_and_cl b_and_lc b_or_cc b_or_cl b_or_lc b_xor_cc b_xor_cl b_xor_lc b_andNot_cc b_andNot_cl b_andNot_lc b_shr_cc b_shr_cl b_shr_lc b_shl_cc b_shl_cl b_shl_lc b_lss b_leq b_gtr b_geq b_add_i b_sub_i b_mul_i beq_cc beq_cl beq_lc beq_ll b_quo_i b_rem_i neg_u64 wrap_i64 driveD stepD idsAt idOf maskH_nil restore_nil restore_mask List.filterMap_nil List.filterMap_cons VOp.looks VOp.makes exA cells_agg cells_int cells_bool cells_str cells_nilp cells_ptr cells_glob cells_nils cells_sl cells_nilf cells_fn cells_nili cells_ifc known_agg known_tup known_int known_bool known_str known_nilp known_ptr known_glob known_nils known_sl known_nilf known_fn known_nili known_ifc known_unk one_agg one_tup one_int one_bool one_str one_nilp one_ptr one_glob one_nils one_sl one_nilf one_fn one_nili one_ifc asK_int asN_int asB_bool asS_str asG_agg asT_tup true_or or_true false_or or_false
attribute [local go_sem ↓] lc_len lc_take lc_drop lc_known lc_one lc_rens lc_cells lw_known lw_agg lw_asG scs_known scs_one scs_len
attribute [local go_sem ↓] brow_len brow_known brow_one brow_rens bw_known bw_agg bw_cells bw_asG
attribute [local go_sem] lt_nat lt_natl lt_lnat lt_ll bool_tf bool_ft
set_option maxRecDepth 100000
set_option maxHeartbeats 4000000
theorem read_f (hG : G 3 = tbl) (fn : Nat) (hfn : fn = 38 ∨ fn = 43) (N o n m : Nat) (F : Nat → Nat) (hF : ∀ j, F j < 256) (h1 : o + n ≤ N) (h2 : 32 ≤ n) (h3 : n ≤ m) (c : Int) (p : Nat) (c0 : List V) (hp : p + 4 ≤ c0.length) (hc0 : ∀ (f : Nat → Nat) v, f 4 = 4 → f 5 = 5 → rens f (c0.take p ++ lc v ++ c0.drop (p + 4)) = c0.take p ++ lc v ++ c0.drop (p + 4)) (Q : V → Heap → Prop)
    (hQ : Q (.tup []) [some ⟨.rw, [.sl 1 (o + adv m) (n - 32) (.exact (m - 32)), .int .i64 (if c = 0 then derr (fun j => F (o + j)) else c)]⟩, some ⟨.ro, brow N F⟩, none, some ⟨.rw, c0.take p ++ lc (dval fun j => F (o + j)) ++ c0.drop (p + 4)⟩, none, none]) :
    VCall Tryd.prog G fn [.ptr 0 0, .ptr 2 0] [some ⟨.rw, [.sl 1 o n (.exact m), .int .i64 c]⟩, some ⟨.ro, brow N F⟩, some ⟨.ro, [.ptr 3 p]⟩, some ⟨.rw, c0⟩, none, none] Q := by
  rcases hfn with rfl | rfl
  · exact read_e hG N o n m F hF h1 h2 h3 c p c0 hp none none (fun _ => trivial) (fun _ => trivial) hc0 Q hQ
  · exact read_n hG N o n m F hF h1 h2 h3 c p c0 hp none none (fun _ => trivial) (fun _ => trivial) hc0 Q hQ
theorem read_at (hG : G 3 = tbl) {fn : Nat} (hfn : fn = 38 ∨ fn = 43) {N o n m : Nat} {F : Nat → Nat} (hF : ∀ j, F j < 256) (h1 : o + n ≤ N) (h2 : 32 ≤ n) (h3 : n ≤ m) {c : Int} {p x y b t i4 i5 : Nat} (hnd : [x, y, b, t, i4, i5].Nodup) {kd : Kind} (hkd : kd.m = true) {h : Heap} (hx : h[x]? = some (some ⟨.rw, [.sl y o n (.exact m), .int .i64 c]⟩)) (hy : h[y]? = some (some ⟨kd, brow N F⟩)) (hb : h[b]? = some (some ⟨.rw, [.ptr t p]⟩)) {c0 c1 : List V} (hp : p + 4 ≤ c0.length) (hc0 : ∀ (f : Nat → Nat) v, f 4 = 4 → f 5 = 5 → rens f (c0.take p ++ lc v ++ c0.drop (p + 4)) = c0.take p ++ lc v ++ c0.drop (p + 4))
    (ht : h[t]? = some (some ⟨.rw, c1⟩)) (h4 : i4 < h.length) (h5 : i5 < h.length) (e1 : rens (gmap [x, y, b, t, i4, i5] h.length) c0 = c1) (c2 : List V) (e2 : rens (gmap [x, y, b, t, i4, i5] h.length) (c0.take p ++ lc (dval fun j => F (o + j)) ++ c0.drop (p + 4)) = c2)
    {R : V → Heap → Prop} (hR : R (.tup []) ((h.set x (some ⟨.rw, [.sl y (o + adv m) (n - 32) (.exact (m - 32)), .int .i64 (if c = 0 then derr (fun j => F (o + j)) else c)]⟩)).set t (some ⟨.rw, c2⟩))) :
    VCall Tryd.prog G fn [.ptr x 0, .ptr b 0] h R := by
  refine vcall_at (Q := fun w k => w = .tup [] ∧ k = [some ⟨.rw, [.sl 1 (o + adv m) (n - 32) (.exact (m - 32)), .int .i64 (if c = 0 then derr (fun j => F (o + j)) else c)]⟩, some ⟨.ro, brow N F⟩, none, some ⟨.rw, c0.take p ++ lc (dval fun j => F (o + j)) ++ c0.drop (p + 4)⟩, none, none]) (read_f hG fn hfn N o n m F hF h1 h2 h3 c p c0 hp hc0 _ ⟨rfl, rfl⟩) [x, y, b, t, i4, i5] ?_ ?_ (uniq_nodup hnd) (by simp only [rens, ren, gmap]) ?_
  · intro i hi
    simp only [List.mem_cons, List.not_mem_nil, or_false] at hi
    rcases hi with rfl | rfl | rfl | rfl | rfl | rfl
    · exact (List.getElem?_eq_some_iff.1 hx).1
    · exact (List.getElem?_eq_some_iff.1 hy).1
    · exact (List.getElem?_eq_some_iff.1 hb).1
    · exact (List.getElem?_eq_some_iff.1 ht).1
    · exact h4
    · exact h5
  · exact hfit_cons hx (bfit_rw (by simp only [rens, ren, gmap])) (hfit_cons hy (bfit_ro (brow_rens ..) hkd) (hfit_cons hb (bfit_ro (by simp only [rens, ren, gmap])) (hfit_cons ht (bfit_rw e1) (hfit_cons_none (hfit_cons_none hfit_nil)))))
  rintro _ _ ⟨rfl, rfl⟩
  simp only [puts, wrB, Bool.false_eq_true, if_false, if_true, List.map_nil, List.append_nil, Option.map_some, renB, rens, ren, gmap, e2]
  exact hR
def er (F : Nat → Nat) : Nat → Int
  | 0 => 0
  | i + 1 => if er F i = 0 then derr (fun t => F (32 * i + t)) else er F i
def dvl (F : Nat → Nat) (i j : Nat) : Nat := if j < i then dval (fun t => F (32 * j + t)) else 0
def dP (F : Nat → Nat) (k i a : Nat) : Nat := dvl F i (if a < 11 then a else a + 2 * k)
def dL (F : Nat → Nat) (i a : Nat) : Nat := dvl F i (11 + 2 * a)
def dR (F : Nat → Nat) (i a : Nat) : Nat := dvl F i (12 + 2 * a)
def hpD (kd : Kind) (N : Nat) (F : Nat → Nat) (z : List V) (k m i o : Nat) : Heap := [some ⟨kd, brow N F⟩, some ⟨.rw, z⟩, some ⟨.rw, scs k (dL F i)⟩, some ⟨.rw, scs k (dR F i)⟩, some ⟨.rw, pc (dP F k i) (.sl 2 0 k (.exact k)) (.sl 3 0 k (.exact k))⟩, some ⟨.rw, [.sl 0 o (32 * (13 + 2 * k - i)) (.exact (m - 32 * i)), .int .i64 (er F i)]⟩, some ⟨.grow, frow k (fun j => 7 + j) (13 + 2 * k)⟩, BXp 4 2 3 k (13 + 2 * k) 0, BXp 4 2 3 k (13 + 2 * k) 1, BXp 4 2 3 k (13 + 2 * k) 2, BXp 4 2 3 k (13 + 2 * k) 3, BXp 4 2 3 k (13 + 2 * k) 4, BXp 4 2 3 k (13 + 2 * k) 5, BXp 4 2 3 k (13 + 2 * k) 6, BXp 4 2 3 k (13 + 2 * k) 7, BXp 4 2 3 k (13 + 2 * k) 8, BXp 4 2 3 k (13 + 2 * k) 9, BXp 4 2 3 k (13 + 2 * k) 10, BXp 4 2 3 k (13 + 2 * k) 11, BXp 4 2 3 k (13 + 2 * k) 12, BXp 4 2 3 k (13 + 2 * k) 13, BXp 4 2 3 k (13 + 2 * k) 14, BXp 4 2 3 k (13 + 2 * k) 15, BXp 4 2 3 k (13 + 2 * k) 16, BXp 4 2 3 k (13 + 2 * k) 17, BXp 4 2 3 k (13 + 2 * k) 18, BXp 4 2 3 k (13 + 2 * k) 19, BXp 4 2 3 k (13 + 2 * k) 20, BXp 4 2 3 k (13 + 2 * k) 21, BXp 4 2 3 k (13 + 2 * k) 22, BXp 4 2 3 k (13 + 2 * k) 23, BXp 4 2 3 k (13 + 2 * k) 24, BXp 4 2 3 k (13 + 2 * k) 25, BXp 4 2 3 k (13 + 2 * k) 26, BXp 4 2 3 k (13 + 2 * k) 27, BXp 4 2 3 k (13 + 2 * k) 28, BXp 4 2 3 k (13 + 2 * k) 29, BXp 4 2 3 k (13 + 2 * k) 30, BXp 4 2 3 k (13 + 2 * k) 31, BXp 4 2 3 k (13 + 2 * k) 32]
theorem hpD_at (kd : Kind) (N : Nat) (F : Nat → Nat) (z : List V) (k m i o : Nat) (X : Heap) : ∀ {j : Nat}, j < 33 → (hpD kd N F z k m i o ++ X)[7 + j]? = some (BXp 4 2 3 k (13 + 2 * k) j)
  | 0, _ => rfl
  | 1, _ => rfl
  | 2, _ => rfl
  | 3, _ => rfl
  | 4, _ => rfl
  | 5, _ => rfl
  | 6, _ => rfl
  | 7, _ => rfl
  | 8, _ => rfl
  | 9, _ => rfl
  | 10, _ => rfl
  | 11, _ => rfl
  | 12, _ => rfl
  | 13, _ => rfl
  | 14, _ => rfl
  | 15, _ => rfl
  | 16, _ => rfl
  | 17, _ => rfl
  | 18, _ => rfl
  | 19, _ => rfl
  | 20, _ => rfl
  | 21, _ => rfl
  | 22, _ => rfl
  | 23, _ => rfl
  | 24, _ => rfl
  | 25, _ => rfl
  | 26, _ => rfl
  | 27, _ => rfl
  | 28, _ => rfl
  | 29, _ => rfl
  | 30, _ => rfl
  | 31, _ => rfl
  | 32, _ => rfl
  | n + 33, h => absurd h (by omega)
theorem dvl_keep (F : Nat → Nat) {i j : Nat} (h : j ≠ i) : dvl F i j = dvl F (i + 1) j := by
  unfold dvl
  by_cases h1 : j < i
  · rw [if_pos h1, if_pos (by omega)]
  · rw [if_neg h1, if_neg (by omega)]
theorem dvl_new (F : Nat → Nat) (i : Nat) : dvl F (i + 1) i = dval (fun t => F (32 * i + t)) := if_pos (by omega)
theorem pc_set (v : Nat → Nat) (l r : V) {j : Nat} (w : Nat → Nat) (x : Nat) (h : j < 11) (hw : w j = x) (he : ∀ a, a < 13 → a ≠ j → v a = w a) : (pc v l r).take (4 * j) ++ lc x ++ (pc v l r).drop (4 * j + 4) = pc w l r := by
  subst hw
  have e : ∀ u : Nat → Nat, pc u l r = lc (u 0) ++ (lc (u 1) ++ (lc (u 2) ++ (lc (u 3) ++ (lc (u 4) ++ (lc (u 5) ++ (lc (u 6) ++ (lc (u 7) ++ (lc (u 8) ++ (lc (u 9) ++ (lc (u 10) ++ ([l, r] ++ (lc (u 11) ++ (lc (u 12)))))))))))))) := fun _ => rfl
  match j, h with
  | 0, _ =>
    have e1 := he 1 (by decide) (by decide)
    have e2 := he 2 (by decide) (by decide)
    have e3 := he 3 (by decide) (by decide)
    have e4 := he 4 (by decide) (by decide)
    have e5 := he 5 (by decide) (by decide)
    have e6 := he 6 (by decide) (by decide)
    have e7 := he 7 (by decide) (by decide)
    have e8 := he 8 (by decide) (by decide)
    have e9 := he 9 (by decide) (by decide)
    have e10 := he 10 (by decide) (by decide)
    have e11 := he 11 (by decide) (by decide)
    have e12 := he 12 (by decide) (by decide)
    show _ = pc w l r
    rw [e w, ← e1, ← e2, ← e3, ← e4, ← e5, ← e6, ← e7, ← e8, ← e9, ← e10, ← e11, ← e12]
    rfl
  | 1, _ =>
    have e0 := he 0 (by decide) (by decide)
    have e2 := he 2 (by decide) (by decide)
    have e3 := he 3 (by decide) (by decide)
    have e4 := he 4 (by decide) (by decide)
    have e5 := he 5 (by decide) (by decide)
    have e6 := he 6 (by decide) (by decide)
    have e7 := he 7 (by decide) (by decide)
    have e8 := he 8 (by decide) (by decide)
    have e9 := he 9 (by decide) (by decide)
    have e10 := he 10 (by decide) (by decide)
    have e11 := he 11 (by decide) (by decide)
    have e12 := he 12 (by decide) (by decide)
    show _ = pc w l r
    rw [e w, ← e0, ← e2, ← e3, ← e4, ← e5, ← e6, ← e7, ← e8, ← e9, ← e10, ← e11, ← e12]
    rfl
  | 2, _ =>
    have e0 := he 0 (by decide) (by decide)
    have e1 := he 1 (by decide) (by decide)
    have e3 := he 3 (by decide) (by decide)
    have e4 := he 4 (by decide) (by decide)
    have e5 := he 5 (by decide) (by decide)
    have e6 := he 6 (by decide) (by decide)
    have e7 := he 7 (by decide) (by decide)
    have e8 := he 8 (by decide) (by decide)
    have e9 := he 9 (by decide) (by decide)
    have e10 := he 10 (by decide) (by decide)
    have e11 := he 11 (by decide) (by decide)
    have e12 := he 12 (by decide) (by decide)
    show _ = pc w l r
    rw [e w, ← e0, ← e1, ← e3, ← e4, ← e5, ← e6, ← e7, ← e8, ← e9, ← e10, ← e11, ← e12]
    rfl
  | 3, _ =>
    have e0 := he 0 (by decide) (by decide)
    have e1 := he 1 (by decide) (by decide)
    have e2 := he 2 (by decide) (by decide)
    have e4 := he 4 (by decide) (by decide)
    have e5 := he 5 (by decide) (by decide)
    have e6 := he 6 (by decide) (by decide)
    have e7 := he 7 (by decide) (by decide)
    have e8 := he 8 (by decide) (by decide)
    have e9 := he 9 (by decide) (by decide)
    have e10 := he 10 (by decide) (by decide)
    have e11 := he 11 (by decide) (by decide)
    have e12 := he 12 (by decide) (by decide)
    show _ = pc w l r
    rw [e w, ← e0, ← e1, ← e2, ← e4, ← e5, ← e6, ← e7, ← e8, ← e9, ← e10, ← e11, ← e12]
    rfl
  | 4, _ =>
    have e0 := he 0 (by decide) (by decide)
    have e1 := he 1 (by decide) (by decide)
    have e2 := he 2 (by decide) (by decide)
    have e3 := he 3 (by decide) (by decide)
    have e5 := he 5 (by decide) (by decide)
    have e6 := he 6 (by decide) (by decide)
    have e7 := he 7 (by decide) (by decide)
    have e8 := he 8 (by decide) (by decide)
    have e9 := he 9 (by decide) (by decide)
    have e10 := he 10 (by decide) (by decide)
    have e11 := he 11 (by decide) (by decide)
    have e12 := he 12 (by decide) (by decide)
    show _ = pc w l r
    rw [e w, ← e0, ← e1, ← e2, ← e3, ← e5, ← e6, ← e7, ← e8, ← e9, ← e10, ← e11, ← e12]
    rfl
  | 5, _ =>
    have e0 := he 0 (by decide) (by decide)
    have e1 := he 1 (by decide) (by decide)
    have e2 := he 2 (by decide) (by decide)
    have e3 := he 3 (by decide) (by decide)
    have e4 := he 4 (by decide) (by decide)
    have e6 := he 6 (by decide) (by decide)
    have e7 := he 7 (by decide) (by decide)
    have e8 := he 8 (by decide) (by decide)
    have e9 := he 9 (by decide) (by decide)
    have e10 := he 10 (by decide) (by decide)
    have e11 := he 11 (by decide) (by decide)
    have e12 := he 12 (by decide) (by decide)
    show _ = pc w l r
    rw [e w, ← e0, ← e1, ← e2, ← e3, ← e4, ← e6, ← e7, ← e8, ← e9, ← e10, ← e11, ← e12]
    rfl
  | 6, _ =>
    have e0 := he 0 (by decide) (by decide)
    have e1 := he 1 (by decide) (by decide)
    have e2 := he 2 (by decide) (by decide)
    have e3 := he 3 (by decide) (by decide)
    have e4 := he 4 (by decide) (by decide)
    have e5 := he 5 (by decide) (by decide)
    have e7 := he 7 (by decide) (by decide)
    have e8 := he 8 (by decide) (by decide)
    have e9 := he 9 (by decide) (by decide)
    have e10 := he 10 (by decide) (by decide)
    have e11 := he 11 (by decide) (by decide)
    have e12 := he 12 (by decide) (by decide)
    show _ = pc w l r
    rw [e w, ← e0, ← e1, ← e2, ← e3, ← e4, ← e5, ← e7, ← e8, ← e9, ← e10, ← e11, ← e12]
    rfl
  | 7, _ =>
    have e0 := he 0 (by decide) (by decide)
    have e1 := he 1 (by decide) (by decide)
    have e2 := he 2 (by decide) (by decide)
    have e3 := he 3 (by decide) (by decide)
    have e4 := he 4 (by decide) (by decide)
    have e5 := he 5 (by decide) (by decide)
    have e6 := he 6 (by decide) (by decide)
    have e8 := he 8 (by decide) (by decide)
    have e9 := he 9 (by decide) (by decide)
    have e10 := he 10 (by decide) (by decide)
    have e11 := he 11 (by decide) (by decide)
    have e12 := he 12 (by decide) (by decide)
    show _ = pc w l r
    rw [e w, ← e0, ← e1, ← e2, ← e3, ← e4, ← e5, ← e6, ← e8, ← e9, ← e10, ← e11, ← e12]
    rfl
  | 8, _ =>
    have e0 := he 0 (by decide) (by decide)
    have e1 := he 1 (by decide) (by decide)
    have e2 := he 2 (by decide) (by decide)
    have e3 := he 3 (by decide) (by decide)
    have e4 := he 4 (by decide) (by decide)
    have e5 := he 5 (by decide) (by decide)
    have e6 := he 6 (by decide) (by decide)
    have e7 := he 7 (by decide) (by decide)
    have e9 := he 9 (by decide) (by decide)
    have e10 := he 10 (by decide) (by decide)
    have e11 := he 11 (by decide) (by decide)
    have e12 := he 12 (by decide) (by decide)
    show _ = pc w l r
    rw [e w, ← e0, ← e1, ← e2, ← e3, ← e4, ← e5, ← e6, ← e7, ← e9, ← e10, ← e11, ← e12]
    rfl
  | 9, _ =>
    have e0 := he 0 (by decide) (by decide)
    have e1 := he 1 (by decide) (by decide)
    have e2 := he 2 (by decide) (by decide)
    have e3 := he 3 (by decide) (by decide)
    have e4 := he 4 (by decide) (by decide)
    have e5 := he 5 (by decide) (by decide)
    have e6 := he 6 (by decide) (by decide)
    have e7 := he 7 (by decide) (by decide)
    have e8 := he 8 (by decide) (by decide)
    have e10 := he 10 (by decide) (by decide)
    have e11 := he 11 (by decide) (by decide)
    have e12 := he 12 (by decide) (by decide)
    show _ = pc w l r
    rw [e w, ← e0, ← e1, ← e2, ← e3, ← e4, ← e5, ← e6, ← e7, ← e8, ← e10, ← e11, ← e12]
    rfl
  | 10, _ =>
    have e0 := he 0 (by decide) (by decide)
    have e1 := he 1 (by decide) (by decide)
    have e2 := he 2 (by decide) (by decide)
    have e3 := he 3 (by decide) (by decide)
    have e4 := he 4 (by decide) (by decide)
    have e5 := he 5 (by decide) (by decide)
    have e6 := he 6 (by decide) (by decide)
    have e7 := he 7 (by decide) (by decide)
    have e8 := he 8 (by decide) (by decide)
    have e9 := he 9 (by decide) (by decide)
    have e11 := he 11 (by decide) (by decide)
    have e12 := he 12 (by decide) (by decide)
    show _ = pc w l r
    rw [e w, ← e0, ← e1, ← e2, ← e3, ← e4, ← e5, ← e6, ← e7, ← e8, ← e9, ← e11, ← e12]
    rfl
theorem pc_set0 (v : Nat → Nat) (l r : V) (w : Nat → Nat) (x : Nat) (hw : w 11 = x) (he : ∀ a, a < 13 → a ≠ 11 → v a = w a) : (pc v l r).take 46 ++ lc x ++ (pc v l r).drop (46 + 4) = pc w l r := by
  subst hw
  have e : ∀ u : Nat → Nat, pc u l r = lc (u 0) ++ (lc (u 1) ++ (lc (u 2) ++ (lc (u 3) ++ (lc (u 4) ++ (lc (u 5) ++ (lc (u 6) ++ (lc (u 7) ++ (lc (u 8) ++ (lc (u 9) ++ (lc (u 10) ++ ([l, r] ++ (lc (u 11) ++ (lc (u 12)))))))))))))) := fun _ => rfl
  have e0 := he 0 (by decide) (by decide)
  have e1 := he 1 (by decide) (by decide)
  have e2 := he 2 (by decide) (by decide)
  have e3 := he 3 (by decide) (by decide)
  have e4 := he 4 (by decide) (by decide)
  have e5 := he 5 (by decide) (by decide)
  have e6 := he 6 (by decide) (by decide)
  have e7 := he 7 (by decide) (by decide)
  have e8 := he 8 (by decide) (by decide)
  have e9 := he 9 (by decide) (by decide)
  have e10 := he 10 (by decide) (by decide)
  have e12 := he 12 (by decide) (by decide)
  rw [e w, ← e0, ← e1, ← e2, ← e3, ← e4, ← e5, ← e6, ← e7, ← e8, ← e9, ← e10, ← e12]
  rfl
theorem pc_set1 (v : Nat → Nat) (l r : V) (w : Nat → Nat) (x : Nat) (hw : w 12 = x) (he : ∀ a, a < 13 → a ≠ 12 → v a = w a) : (pc v l r).take 50 ++ lc x ++ (pc v l r).drop (50 + 4) = pc w l r := by
  subst hw
  have e : ∀ u : Nat → Nat, pc u l r = lc (u 0) ++ (lc (u 1) ++ (lc (u 2) ++ (lc (u 3) ++ (lc (u 4) ++ (lc (u 5) ++ (lc (u 6) ++ (lc (u 7) ++ (lc (u 8) ++ (lc (u 9) ++ (lc (u 10) ++ ([l, r] ++ (lc (u 11) ++ (lc (u 12)))))))))))))) := fun _ => rfl
  have e0 := he 0 (by decide) (by decide)
  have e1 := he 1 (by decide) (by decide)
  have e2 := he 2 (by decide) (by decide)
  have e3 := he 3 (by decide) (by decide)
  have e4 := he 4 (by decide) (by decide)
  have e5 := he 5 (by decide) (by decide)
  have e6 := he 6 (by decide) (by decide)
  have e7 := he 7 (by decide) (by decide)
  have e8 := he 8 (by decide) (by decide)
  have e9 := he 9 (by decide) (by decide)
  have e10 := he 10 (by decide) (by decide)
  have e11 := he 11 (by decide) (by decide)
  rw [e w, ← e0, ← e1, ← e2, ← e3, ← e4, ← e5, ← e6, ← e7, ← e8, ← e9, ← e10, ← e11]
  rfl
end Go.Vs.Tryd
namespace Go.Vs.Tryd
open Go.Proofs
variable {G : Nat → List V}
set_option linter.unusedSimpArgs false
attribute [local go_sem] lenO_nils lenO_sl sliceAtV Int.sub_zero List.length_append List.all_append ge_iff_le gt_iff_lt Int.natCast_nonneg Int.toNat_natCast Nat.mul_one b_and_ll b_shr_ll b_mul_ll b_add_ll b_or_ll b_shl_ll pick_ll pick_lc pick_bb driveS stopV Option.isSome_some Option.isSome_none Kind.m Kind.w Kind.g look_ro look_rw look_grow drive stepV exo expo evs fillV isNil nilKind eqV eqL optA optM sliceAtV ev kn ldc stc splice appV srcV lenV setd wantV exitV rvs rv one List.length_cons List.length_nil List.cons_append List.nil_append List.append_nil List.replicate List.getD_cons_zero List.getD_cons_succ List.set_cons_zero List.set_cons_succ List.getElem?_cons_zero List.getElem?_cons_succ List.getElem?_nil List.take_succ_cons List.take_zero List.take_nil List.drop_succ_cons List.drop_zero List.drop_nil List.all_cons List.all_nil List.any_cons List.any_nil Bool.and_true Bool.true_and Bool.and_self Option.map_some Option.map_none Option.bind_some Option.some.injEq Nat.add_zero Nat.zero_add Int.toNat_zero Int.toNat_one Int.zero_add Int.add_zero if_true if_false ite_true ite_false and_true true_and and_self ne_eq not_false_eq_true not_true_eq_false decide_true decide_false Bool.false_eq_true Bool.not_true Bool.not_false beq_self_eq_true BEq.rfl Bool.not_eq_true Nat.le_refl Int.le_refl Nat.zero_le List.foldl List.map_cons List.map_nil Prod.mk.injEq Int.cast_ofNat_Int Int.zero_le_ofNat b_add_cc b_add_cl b_add_lc b_mul_cc b_mul_cl b_mul_lc b_sub_cc b_sub_cl b_sub_lc b_and_cc b_and_cl b_and_lc b_or_cc b_or_cl b_or_lc b_xor_cc b_xor_cl b_xor_lc b_andNot_cc b_andNot_cl b_andNot_lc b_shr_cc b_shr_cl b_shr_lc b_shl_cc b_shl_cl b_shl_lc b_lss b_leq b_gtr b_geq b_add_i b_sub_i b_mul_i beq_cc beq_cl beq_lc beq_ll b_quo_i b_rem_i neg_u64 wrap_i64 driveD stepD idsAt idOf maskH_nil restore_nil restore_mask List.filterMap_nil List.filterMap_cons VOp.looks VOp.makes exA cells_agg cells_int cells_bool cells_str cells_nilp cells_ptr cells_glob cells_nils cells_sl cells_nilf cells_fn cells_nili cells_ifc known_agg known_tup known_int known_bool known_str known_nilp known_ptr known_glob known_nils known_sl known_nilf known_fn known_nili known_ifc known_unk one_agg one_tup one_int one_bool one_str one_nilp one_ptr one_glob one_nils one_sl one_nilf one_fn one_nili one_ifc asK_int asN_int asB_bool asS_str asG_agg asT_tup true_or or_true false_or or_false
set_option maxRecDepth 100000
set_option maxHeartbeats 4000000
theorem pc_congr (l r : V) {v w : Nat → Nat} (h : ∀ a, a < 13 → v a = w a) : pc v l r = pc w l r := by
  unfold pc
  rw [scs_congr (n := 11) (fun j hj => h j (by omega)), scs_congr (n := 2) (f := fun j => v (11 + j)) (f' := fun j => w (11 + j)) (fun j hj => h (11 + j) (by omega))]
theorem pc_ren (v : Nat → Nat) (l r : V) (f : Nat → Nat) : rens f (pc v l r) = pc v (ren f l) (ren f r) := by
  unfold pc
  simp only [rens_append, scs_rens, rens]
def upn (v : Nat → Nat) (i x a : Nat) : Nat := if a = i then x else v a
theorem upn_i (v : Nat → Nat) (i x : Nat) : upn v i x i = x := if_pos rfl
theorem upn_n (v : Nat → Nat) (i x a : Nat) (h : a ≠ i) : v a = upn v i x a := (if_neg h).symm
theorem rd_p (hG : G 3 = tbl) {fn : Nat} (hfn : fn = 38 ∨ fn = 43) {kd : Kind} (hkd : kd.m = true) {N : Nat} {F : Nat → Nat} (hF : ∀ j, F j < 256) {z : List V} {k m i o p : Nat} (hk : k ≤ 10) (hi : i < 13 + 2 * k) (ho : o = 32 * i) (hN : 32 * (13 + 2 * k) ≤ N) (hm : 32 * (13 + 2 * k) ≤ m) {X : Heap} (hp : p + 4 ≤ 54)
    (ht : tgp 4 2 3 k i = .ptr 4 p)
    (hset : ∀ (l r : V) (v w : Nat → Nat) x, w (if i < 11 then i else i - 2 * k) = x → (∀ a, a < 13 → a ≠ (if i < 11 then i else i - 2 * k) → v a = w a) → (pc v l r).take p ++ lc x ++ (pc v l r).drop (p + 4) = pc w l r)
    (hc : i < 11 ∨ 11 + 2 * k ≤ i)
    {Q : V → Heap → Prop} (hQ : Q (.tup []) (hpD kd N F z k m (i + 1) (o + adv (m - 32 * i)) ++ X)) : VCall Tryd.prog G fn [.ptr 5 0, .ptr (7 + i) 0] (hpD kd N F z k m i o ++ X) Q := by
  have hb := hpD_at kd N F z k m i o X (j := i) (by omega)
  rw [BXp, if_pos hi, ht] at hb
  have hs := fun x => hset (.sl 4 0 k (.exact k)) (.sl 5 0 k (.exact k)) (dP F k i) (upn (dP F k i) (if i < 11 then i else i - 2 * k) x) x (upn_i ..) (fun a _ h => upn_n _ _ _ _ h)
  have e := hset (.sl 4 0 k (.exact k)) (.sl 5 0 k (.exact k)) (dP F k i) (dP F k (i + 1)) (dval fun t => F (o + t)) (by
    unfold dP
    rw [show (if (if i < 11 then i else i - 2 * k) < 11 then (if i < 11 then i else i - 2 * k) else (if i < 11 then i else i - 2 * k) + 2 * k) = i by
      by_cases h : i < 11
      · rw [if_pos h, if_pos h]
      · rw [if_neg h, if_neg (by omega)]; omega, dvl_new, ho]) (fun a ha h => by
    unfold dP
    refine dvl_keep F ?_
    split at h <;> split <;> omega)
  refine read_at hG hfn hF (N := N) (o := o) (n := 32 * (13 + 2 * k - i)) (m := m - 32 * i) (by omega) (by omega) (by omega) (c := er F i) (p := p) (x := 5) (y := 0) (b := 7 + i) (t := 4) (i4 := 2) (i5 := 3) ?_ (kd := kd) hkd rfl rfl hb (c0 := pc (dP F k i) (.sl 4 0 k (.exact k)) (.sl 5 0 k (.exact k))) (c1 := pc (dP F k i) (.sl 2 0 k (.exact k)) (.sl 3 0 k (.exact k))) hp ?_ rfl ?_ ?_ ?_ (pc (dP F k (i + 1)) (.sl 2 0 k (.exact k)) (.sl 3 0 k (.exact k))) ?_ ?_
  · simp only [List.nodup_cons, List.mem_cons, List.not_mem_nil, or_false, not_or, not_false_eq_true, and_true, List.nodup_nil]
    omega
  · intro f x h4 h5
    rw [hs, pc_ren, ren, ren, h4, h5]
  · simp [hpD]
  · simp [hpD]
  · rw [pc_ren, ren, ren]
    rfl
  · rw [e, pc_ren, ren, ren]
    rfl
  · have eL : scs k (dL F i) = scs k (dL F (i + 1)) := scs_congr fun a ha => dvl_keep F (by omega)
    have eR : scs k (dR F i) = scs k (dR F (i + 1)) := scs_congr fun a ha => dvl_keep F (by omega)
    have e1 : 32 * (13 + 2 * k - i) - 32 = 32 * (13 + 2 * k - (i + 1)) := by omega
    have e2 : m - 32 * i - 32 = m - 32 * (i + 1) := by omega
    rw [e1, e2]
    unfold hpD at hQ ⊢
    rw [eL, eR, ho] at *
    exact hQ
theorem rd_l (hG : G 3 = tbl) {fn : Nat} (hfn : fn = 38 ∨ fn = 43) {kd : Kind} (hkd : kd.m = true) {N : Nat} {F : Nat → Nat} (hF : ∀ j, F j < 256) {z : List V} {k m i o a : Nat} (hk : k ≤ 10) (ha : a < k) (hi : i = 11 + 2 * a) (ho : o = 32 * i) (hN : 32 * (13 + 2 * k) ≤ N) (hm : 32 * (13 + 2 * k) ≤ m) {X : Heap}
    {Q : V → Heap → Prop} (hQ : Q (.tup []) (hpD kd N F z k m (i + 1) (o + adv (m - 32 * i)) ++ X)) : VCall Tryd.prog G fn [.ptr 5 0, .ptr (7 + i) 0] (hpD kd N F z k m i o ++ X) Q := by
  have hb := hpD_at kd N F z k m i o X (j := i) (by omega)
  rw [BXp, if_pos (by omega), tgp, if_neg (by omega), if_pos (by omega), if_pos (by omega), show 4 * ((i - 11) / 2) = a * 4 by omega] at hb
  have hs := fun x => scs_set k (dL F i) (upn (dL F i) a x) ha (v := x) (upn_i ..) (fun b _ h => upn_n _ _ _ _ h)
  have e := scs_set k (dL F i) (dL F (i + 1)) ha (v := dval fun t => F (o + t)) (by unfold dL; rw [← hi, dvl_new, ho]) (fun b _ h => dvl_keep F (by omega))
  refine read_at hG hfn hF (N := N) (o := o) (n := 32 * (13 + 2 * k - i)) (m := m - 32 * i) (by omega) (by omega) (by omega) (c := er F i) (p := a * 4) (x := 5) (y := 0) (b := 7 + i) (t := 2) (i4 := 3) (i5 := 4) ?_ (kd := kd) hkd rfl rfl hb (c0 := scs k (dL F i)) (c1 := scs k (dL F i)) ?_ ?_ rfl ?_ ?_ ?_ (scs k (dL F (i + 1))) ?_ ?_
  · simp only [List.nodup_cons, List.mem_cons, List.not_mem_nil, or_false, not_or, not_false_eq_true, and_true, List.nodup_nil]
    omega
  · rw [scs_len]; omega
  · intro f x h4 h5
    rw [hs, scs_rens]
  · simp [hpD]
  · simp [hpD]
  · exact scs_rens ..
  · rw [e, scs_rens]
  · have eP : pc (dP F k i) (.sl 2 0 k (.exact k)) (.sl 3 0 k (.exact k)) = pc (dP F k (i + 1)) (.sl 2 0 k (.exact k)) (.sl 3 0 k (.exact k)) := pc_congr _ _ fun b hb => dvl_keep F (by split <;> omega)
    have eR : scs k (dR F i) = scs k (dR F (i + 1)) := scs_congr fun b hb => dvl_keep F (by omega)
    have e1 : 32 * (13 + 2 * k - i) - 32 = 32 * (13 + 2 * k - (i + 1)) := by omega
    have e2 : m - 32 * i - 32 = m - 32 * (i + 1) := by omega
    rw [e1, e2]
    unfold hpD at hQ ⊢
    rw [eP, eR, ho] at *
    exact hQ
theorem rd_r (hG : G 3 = tbl) {fn : Nat} (hfn : fn = 38 ∨ fn = 43) {kd : Kind} (hkd : kd.m = true) {N : Nat} {F : Nat → Nat} (hF : ∀ j, F j < 256) {z : List V} {k m i o a : Nat} (hk : k ≤ 10) (ha : a < k) (hi : i = 12 + 2 * a) (ho : o = 32 * i) (hN : 32 * (13 + 2 * k) ≤ N) (hm : 32 * (13 + 2 * k) ≤ m) {X : Heap}
    {Q : V → Heap → Prop} (hQ : Q (.tup []) (hpD kd N F z k m (i + 1) (o + adv (m - 32 * i)) ++ X)) : VCall Tryd.prog G fn [.ptr 5 0, .ptr (7 + i) 0] (hpD kd N F z k m i o ++ X) Q := by
  have hb := hpD_at kd N F z k m i o X (j := i) (by omega)
  rw [BXp, if_pos (by omega), tgp, if_neg (by omega), if_pos (by omega), if_neg (by omega), show 4 * ((i - 11) / 2) = a * 4 by omega] at hb
  have hs := fun x => scs_set k (dR F i) (upn (dR F i) a x) ha (v := x) (upn_i ..) (fun b _ h => upn_n _ _ _ _ h)
  have e := scs_set k (dR F i) (dR F (i + 1)) ha (v := dval fun t => F (o + t)) (by unfold dR; rw [← hi, dvl_new, ho]) (fun b _ h => dvl_keep F (by omega))
  refine read_at hG hfn hF (N := N) (o := o) (n := 32 * (13 + 2 * k - i)) (m := m - 32 * i) (by omega) (by omega) (by omega) (c := er F i) (p := a * 4) (x := 5) (y := 0) (b := 7 + i) (t := 3) (i4 := 2) (i5 := 4) ?_ (kd := kd) hkd rfl rfl hb (c0 := scs k (dR F i)) (c1 := scs k (dR F i)) ?_ ?_ rfl ?_ ?_ ?_ (scs k (dR F (i + 1))) ?_ ?_
  · simp only [List.nodup_cons, List.mem_cons, List.not_mem_nil, or_false, not_or, not_false_eq_true, and_true, List.nodup_nil]
    omega
  · rw [scs_len]; omega
  · intro f x h4 h5
    rw [hs, scs_rens]
  · simp [hpD]
  · simp [hpD]
  · exact scs_rens ..
  · rw [e, scs_rens]
  · have eP : pc (dP F k i) (.sl 2 0 k (.exact k)) (.sl 3 0 k (.exact k)) = pc (dP F k (i + 1)) (.sl 2 0 k (.exact k)) (.sl 3 0 k (.exact k)) := pc_congr _ _ fun b hb => dvl_keep F (by split <;> omega)
    have eL : scs k (dL F i) = scs k (dL F (i + 1)) := scs_congr fun b hb => dvl_keep F (by omega)
    have e1 : 32 * (13 + 2 * k - i) - 32 = 32 * (13 + 2 * k - (i + 1)) := by omega
    have e2 : m - 32 * i - 32 = m - 32 * (i + 1) := by omega
    rw [e1, e2]
    unfold hpD at hQ ⊢
    rw [eP, eL, ho] at *
    exact hQ
theorem rd_at (hG : G 3 = tbl) {kd : Kind} (hkd : kd.m = true) {N : Nat} {F : Nat → Nat} (hF : ∀ j, F j < 256) {z : List V} {k m i o : Nat} (hk : k ≤ 10) (hi : i < 13 + 2 * k) (ho : o = 32 * i) (hN : 32 * (13 + 2 * k) ≤ N) (hm : 32 * (13 + 2 * k) ≤ m) {X : Heap}
    {Q : V → Heap → Prop} (hQ : Q (.tup []) (hpD kd N F z k m (i + 1) (o + adv (m - 32 * i)) ++ X)) : VCall Tryd.prog G (lr_ k i) [.ptr 5 0, .ptr (7 + i) 0] (hpD kd N F z k m i o ++ X) Q := by
  have hF' : lr_ k i = 38 ∨ lr_ k i = 43 := by unfold lr_; split; exact .inl rfl; exact .inr rfl
  by_cases h1 : i < 11
  · refine rd_p hG hF' hkd hF hk hi ho hN hm (p := 4 * i) (by omega) (by rw [tgp, if_pos h1]) ?_ (.inl h1) hQ
    intro l r v w x hw he
    rw [if_pos h1] at hw he
    exact pc_set v l r w x h1 hw he
  by_cases h2 : i < 11 + 2 * k
  · by_cases h3 : (i - 11) % 2 = 0
    · exact rd_l hG hF' hkd hF hk (a := (i - 11) / 2) (by omega) (by omega) ho hN hm hQ
    · exact rd_r hG hF' hkd hF hk (a := (i - 11) / 2) (by omega) (by omega) ho hN hm hQ
  obtain h4 | h4 : i = 11 + 2 * k ∨ i = 12 + 2 * k := by omega
  · refine rd_p hG hF' hkd hF hk hi ho hN hm (p := 46) (by omega) (by rw [tgp, if_neg h1, if_neg h2, show 46 + 4 * (i - 11 - 2 * k) = 46 by omega]) ?_ (.inr (by omega)) hQ
    intro l r v w x hw he
    rw [if_neg h1, show i - 2 * k = 11 by omega] at hw he
    exact pc_set0 v l r w x hw he
  · refine rd_p hG hF' hkd hF hk hi ho hN hm (p := 50) (by omega) (by rw [tgp, if_neg h1, if_neg h2, show 46 + 4 * (i - 11 - 2 * k) = 50 by omega]) ?_ (.inr (by omega)) hQ
    intro l r v w x hw he
    rw [if_neg h1, show i - 2 * k = 12 by omega] at hw he
    exact pc_set1 v l r w x hw he
end Go.Vs.Tryd
namespace Go.Vs.Tryd
open Go.Proofs
variable {G : Nat → List V}
set_option linter.unusedSimpArgs false
attribute [local go_sem] lenO_nils lenO_sl sliceAtV Int.sub_zero List.length_append List.all_append ge_iff_le gt_iff_lt Int.natCast_nonneg Int.toNat_natCast Nat.mul_one b_and_ll b_shr_ll b_mul_ll b_add_ll b_or_ll b_shl_ll pick_ll pick_lc pick_bb driveS stopV Option.isSome_some Option.isSome_none Kind.m Kind.w Kind.g look_ro look_rw look_grow drive stepV exo expo evs fillV isNil nilKind eqV eqL optA optM sliceAtV ev kn ldc stc splice appV srcV lenV setd wantV exitV rvs rv one List.length_cons List.length_nil List.cons_append List.nil_append List.append_nil List.replicate List.getD_cons_zero List.getD_cons_succ List.set_cons_zero List.set_cons_succ List.getElem?_cons_zero List.getElem?_cons_succ List.getElem?_nil List.take_succ_cons List.take_zero List.take_nil List.drop_succ_cons List.drop_zero List.drop_nil List.all_cons List.all_nil List.any_cons List.any_nil Bool.and_true Bool.true_and Bool.and_self Option.map_some Option.map_none Option.bind_some Option.some.injEq Nat.add_zero Nat.zero_add Int.toNat_zero Int.toNat_one Int.zero_add Int.add_zero if_true if_false ite_true ite_false and_true true_and and_self ne_eq not_false_eq_true not_true_eq_false decide_true decide_false Bool.false_eq_true Bool.not_true Bool.not_false beq_self_eq_true BEq.rfl Bool.not_eq_true Nat.le_refl Int.le_refl Nat.zero_le List.foldl List.map_cons List.map_nil Prod.mk.injEq Int.cast_ofNat_Int Int.zero_le_ofNat b_add_cc b_add_cl b_add_lc b_mul_cc b_mul_cl b_mul_lc b_sub_cc b_sub_cl b_sub_lc b_and_cc b_and_cl b_and_lc b_or_cc b_or_cl b_or_lc b_xor_cc b_xor_cl b_xor_lc b_andNot_cc b_andNot_cl b_andNot_lc b_shr_cc b_shr_cl b_shr_lc b_shl_cc b_shl_cl b_shl_lc b_lss b_leq b_gtr b_geq b_add_i b_sub_i b_mul_i beq_cc beq_cl beq_lc beq_ll b_quo_i b_rem_i neg_u64 wrap_i64 driveD stepD idsAt idOf maskH_nil restore_nil restore_mask List.filterMap_nil List.filterMap_cons VOp.looks VOp.makes exA cells_agg cells_int cells_bool cells_str cells_nilp cells_ptr cells_glob cells_nils cells_sl cells_nilf cells_fn cells_nili cells_ifc known_agg known_tup known_int known_bool known_str known_nilp known_ptr known_glob known_nils known_sl known_nilf known_fn known_nili known_ifc known_unk one_agg one_tup one_int one_bool one_str one_nilp one_ptr one_glob one_nils one_sl one_nilf one_fn one_nili one_ifc asK_int asN_int asB_bool asS_str asG_agg asT_tup true_or or_true false_or or_false
attribute [local go_sem_proc] Nat.reduceAdd Nat.reduceSub Nat.reduceLeDiff Nat.reduceMul Nat.reduceLT Nat.reduceEqDiff Int.reduceLT Int.reduceLE Int.reduceAdd Int.reduceSub Int.reduceMul Int.reduceToNat reduceIte reduceCtorEq Nat.reduceBEq
section
attribute [local go_sem ↓] lc_len lc_take lc_drop lc_known lc_one lc_rens lc_cells lw_known lw_agg lw_asG scs_known scs_one scs_len
attribute [local go_sem ↓] brow_len brow_known brow_one brow_rens bw_known bw_agg bw_cells bw_asG
attribute [local go_sem] lt_nat lt_natl lt_lnat lt_ll bool_tf bool_ft
set_option maxRecDepth 100000
set_option maxHeartbeats 4000000
section
variable (kd : Kind) (N : Nat) (F : Nat → Nat) (z : List V) (k m : Nat)
def tmD (i : Nat) : List V := [.unk, .unk, .ptr 1 0, .int .i64 0, .unk, .ptr 4 0, .ptr 5 0] ++ List.replicate 31 .unk ++ [.sl 6 0 (13 + 2 * k) (.grow 2), .int .i64 (13 + 2 * k : Nat), .int .i64 i] ++ List.replicate 19 .unk
theorem d7_next {Q : V → Heap → Prop} {K : List TI} (hz : ∀ {f : Nat → Nat}, rens f z = z) (hk : k ≤ 10) (i o : Nat) (tm : List V) (X : Option Blk) (ht : ∀ f : Nat → Nat, f 1 = 1 → f 4 = 4 → f 5 = 5 → f 6 = 6 → fit f (tmD k i) tm)
    (ih : Run Tryd.prog G 7 1 Q (K, ⟨tmD k i, hpD kd N F z k m i o⟩)) :
    Run Tryd.prog G 7 1 Q (K, ⟨tm, hpD kd N F z k m i o ++ [X]⟩) := by
  unfold hpD at ih ⊢
  refine run_rename [0, 1, 2, 3, 4, 5, 6, 7, 8, 9, 10, 11, 12, 13, 14, 15, 16, 17, 18, 19, 20, 21, 22, 23, 24, 25, 26, 27, 28, 29, 30, 31, 32, 33, 34, 35, 36, 37, 38, 39] rfl (by simp) ?_ (uniq_nodup (by decide +kernel)) (ht _ rfl rfl rfl rfl) ih
  exact hfit_cons rfl (bfit_g (brow_rens ..)) (hfit_cons rfl (bfit_g hz) (hfit_cons rfl (bfit_g (scs_rens ..)) (hfit_cons rfl (bfit_g (scs_rens ..)) (hfit_cons rfl (bfit_g (by rw [pc_ren]; rfl)) (hfit_cons rfl (bfit_g rfl) (hfit_cons rfl (bfit_g (frow_ren k _ _ _ _ (fun j hj => gmap_pre 40 [] (by decide +kernel) (by omega)))) (hfit_cons rfl (BXp_keep rfl rfl rfl k _ 0) (hfit_cons rfl (BXp_keep rfl rfl rfl k _ 1) (hfit_cons rfl (BXp_keep rfl rfl rfl k _ 2) (hfit_cons rfl (BXp_keep rfl rfl rfl k _ 3) (hfit_cons rfl (BXp_keep rfl rfl rfl k _ 4) (hfit_cons rfl (BXp_keep rfl rfl rfl k _ 5) (hfit_cons rfl (BXp_keep rfl rfl rfl k _ 6) (hfit_cons rfl (BXp_keep rfl rfl rfl k _ 7) (hfit_cons rfl (BXp_keep rfl rfl rfl k _ 8) (hfit_cons rfl (BXp_keep rfl rfl rfl k _ 9) (hfit_cons rfl (BXp_keep rfl rfl rfl k _ 10) (hfit_cons rfl (BXp_keep rfl rfl rfl k _ 11) (hfit_cons rfl (BXp_keep rfl rfl rfl k _ 12) (hfit_cons rfl (BXp_keep rfl rfl rfl k _ 13) (hfit_cons rfl (BXp_keep rfl rfl rfl k _ 14) (hfit_cons rfl (BXp_keep rfl rfl rfl k _ 15) (hfit_cons rfl (BXp_keep rfl rfl rfl k _ 16) (hfit_cons rfl (BXp_keep rfl rfl rfl k _ 17) (hfit_cons rfl (BXp_keep rfl rfl rfl k _ 18) (hfit_cons rfl (BXp_keep rfl rfl rfl k _ 19) (hfit_cons rfl (BXp_keep rfl rfl rfl k _ 20) (hfit_cons rfl (BXp_keep rfl rfl rfl k _ 21) (hfit_cons rfl (BXp_keep rfl rfl rfl k _ 22) (hfit_cons rfl (BXp_keep rfl rfl rfl k _ 23) (hfit_cons rfl (BXp_keep rfl rfl rfl k _ 24) (hfit_cons rfl (BXp_keep rfl rfl rfl k _ 25) (hfit_cons rfl (BXp_keep rfl rfl rfl k _ 26) (hfit_cons rfl (BXp_keep rfl rfl rfl k _ 27) (hfit_cons rfl (BXp_keep rfl rfl rfl k _ 28) (hfit_cons rfl (BXp_keep rfl rfl rfl k _ 29) (hfit_cons rfl (BXp_keep rfl rfl rfl k _ 30) (hfit_cons rfl (BXp_keep rfl rfl rfl k _ 31) (hfit_cons rfl (BXp_keep rfl rfl rfl k _ 32) hfit_nil)))))))))))))))))))))))))))))))))))))))
theorem d7_loop (hG : G 3 = tbl) (hkd : kd.m = true) (hF : ∀ j, F j < 256) (hz : ∀ {f : Nat → Nat}, rens f z = z) (hk : k ≤ 10) (hN : 32 * (13 + 2 * k) ≤ N) (hm : 32 * (13 + 2 * k) ≤ m) {Q : V → Heap → Prop} {K : List TI}
    (hQ : ∀ o, Run Tryd.prog G 7 1 Q (K, ⟨tmD k (13 + 2 * k), hpD kd N F z k m (13 + 2 * k) o⟩)) : ∀ n i o, i + n = 13 + 2 * k → (i < 13 + 2 * k → o = 32 * i) →
    Run Tryd.prog G 7 1 Q (.l v7_12 :: .b 0 :: K, ⟨tmD k i, hpD kd N F z k m i o⟩)
  | 0, i, o, e, ho => by
    obtain rfl : i = 13 + 2 * k := by omega
    have hQ := hQ o
    have h0 : (((13 + 2 * k : Nat) : Int) < ((13 + 2 * k : Nat) : Int)) = False := eq_false (by omega)
    unfold tmD hpD at hQ ⊢
    refine run_loop_eq v7_12.eq_1 ?_
    refine run_driveS 80 ?_
    simp only [go_sem, v7_7, h0]
    refine run_exit rfl ?_
    refine run_tmps ?_ hQ
    simp only [go_sem, forg, true_or, or_true]
  | n + 1, i, o, e, ho => by
    have hi : i < 13 + 2 * k := by omega
    have ho := ho hi
    have ih := d7_loop hG hkd hF hz hk hN hm hQ n (i + 1) (o + adv (m - 32 * i)) (by omega) (fun h => by
      unfold adv
      rw [if_neg (by omega)]
      omega)
    have nx := d7_next kd N F z k m hz hk (i + 1) (o + adv (m - 32 * i)) (G := G) (Q := Q) (K := .l v7_12 :: .b 0 :: K)
    have h0 : ((i : Int) < ((13 + 2 * k : Nat) : Int)) = True := eq_true (by omega)
    have g1 : ((frow k (fun j => 7 + j) (13 + 2 * k)).drop (i * 2)).take 2 = [.fn (.func (lw_ k i)) [] [.ptr (7 + i) 0], .fn (.func (lr_ k i)) [] [.ptr (7 + i) 0]] := by rw [frow_get k _ hi, fcell_eq]
    have l1 := frow_len k (fun j => 7 + j)
    have hw : IntKind.i64.wrap ((i : Int) + 1) = ((i + 1 : Nat) : Int) := by rw [wrap_i64 (by omega) (by omega)]; omega
    unfold tmD
    show Run _ _ _ _ _ (_, ⟨_, [some ⟨kd, brow N F⟩, some ⟨.rw, z⟩, some ⟨.rw, scs k (dL F i)⟩, some ⟨.rw, scs k (dR F i)⟩, some ⟨.rw, pc (dP F k i) (.sl 2 0 k (.exact k)) (.sl 3 0 k (.exact k))⟩, some ⟨.rw, [.sl 0 o (32 * (13 + 2 * k - i)) (.exact (m - 32 * i)), .int .i64 (er F i)]⟩, some ⟨.grow, frow k (fun j => 7 + j) (13 + 2 * k)⟩, BXp 4 2 3 k (13 + 2 * k) 0, BXp 4 2 3 k (13 + 2 * k) 1, BXp 4 2 3 k (13 + 2 * k) 2, BXp 4 2 3 k (13 + 2 * k) 3, BXp 4 2 3 k (13 + 2 * k) 4, BXp 4 2 3 k (13 + 2 * k) 5, BXp 4 2 3 k (13 + 2 * k) 6, BXp 4 2 3 k (13 + 2 * k) 7, BXp 4 2 3 k (13 + 2 * k) 8, BXp 4 2 3 k (13 + 2 * k) 9, BXp 4 2 3 k (13 + 2 * k) 10, BXp 4 2 3 k (13 + 2 * k) 11, BXp 4 2 3 k (13 + 2 * k) 12, BXp 4 2 3 k (13 + 2 * k) 13, BXp 4 2 3 k (13 + 2 * k) 14, BXp 4 2 3 k (13 + 2 * k) 15, BXp 4 2 3 k (13 + 2 * k) 16, BXp 4 2 3 k (13 + 2 * k) 17, BXp 4 2 3 k (13 + 2 * k) 18, BXp 4 2 3 k (13 + 2 * k) 19, BXp 4 2 3 k (13 + 2 * k) 20, BXp 4 2 3 k (13 + 2 * k) 21, BXp 4 2 3 k (13 + 2 * k) 22, BXp 4 2 3 k (13 + 2 * k) 23, BXp 4 2 3 k (13 + 2 * k) 24, BXp 4 2 3 k (13 + 2 * k) 25, BXp 4 2 3 k (13 + 2 * k) 26, BXp 4 2 3 k (13 + 2 * k) 27, BXp 4 2 3 k (13 + 2 * k) 28, BXp 4 2 3 k (13 + 2 * k) 29, BXp 4 2 3 k (13 + 2 * k) 30, BXp 4 2 3 k (13 + 2 * k) 31, BXp 4 2 3 k (13 + 2 * k) 32]⟩)
    refine run_loop_eq v7_12.eq_1 ?_
    refine run_driveS 80 ?_
    simp only [go_sem, v7_7, v7_10, v7_8, h0, g1, l1]
    refine run_driveS 80 ?_
    simp only [go_sem, v7_9]
    refine run_call' rfl ?_
    simp only [go_sem, calV]
    refine rd_at hG hkd hF hk hi ho hN hm (X := [some ⟨.rw, [.fn (.func (lw_ k i)) [] [.ptr (7 + i) 0], .fn (.func (lr_ k i)) [] [.ptr (7 + i) 0]]⟩]) ?_
    refine run_driveS 80 ?_
    simp only [go_sem, v7_11, hw]
    refine nx _ _ (fun f h1 h4 h5 h6 => ?_) ih
    simp only [go_sem, tmD, fit, ren, h1, h4, h5, h6, true_or, or_true]
theorem pc_one (v : Nat → Nat) (l r : V) (hlk : l.one = true) (hrk : r.one = true) : (pc v l r).all V.one = true := by
  unfold pc
  rw [List.all_append, List.all_cons, List.all_cons, scs_one, scs_one, hlk, hrk]
  rfl
theorem dvl0 (F : Nat → Nat) (j : Nat) : dvl F 0 j = 0 := if_neg (Nat.not_lt_zero _)
def z54 : List V := pc (fun _ => 0) .nils .nils
theorem hz54 {f : Nat → Nat} : rens f z54 = z54 := by unfold z54; rw [pc_ren]; rfl
theorem decode_ok (hG : G 3 = tbl) (hF : ∀ j, F j < 256) (hk : k ≤ 10) (hN : 32 * (13 + 2 * k) ≤ N) (hm : 32 * (13 + 2 * k) ≤ m) {Q : V → Heap → Prop}
    (hQ : Q (if er F (13 + 2 * k) = 0 then .tup [.agg (pc (dP F k (13 + 2 * k)) (.sl 1 0 k (.exact k)) (.sl 2 0 k (.exact k))), .int .i64 0] else .tup [.agg z54, .int .i64 (er F (13 + 2 * k))]) [none, some ⟨.rw, scs k (dL F (13 + 2 * k))⟩, some ⟨.rw, scs k (dR F (13 + 2 * k))⟩]) : VCall Tryd.prog G 7 [.sl 0 0 (32 * (13 + 2 * k)) (.exact m)] [some ⟨.ro, brow N F⟩] Q := by
  have hk0 : ((k : Int) < 0) = False := eq_false (by omega)
  have c1 : ((10 : Int) < (k : Int)) = False := eq_false (by omega)
  have q1 : binI .quo .i64 ((32 * (13 + 2 * k) : Nat) : Int) .i64 32 = some (.int .i64 ((13 + 2 * k : Nat) : Int)) := by
    rw [b_quo_i _ _ (by decide), Int.tdiv_eq_ediv_of_nonneg (by omega), wrap_i64 (by omega) (by omega)]
    congr 2
    omega
  have q2 : IntKind.i64.wrap (((13 + 2 * k : Nat) : Int) - 13) = ((2 * k : Nat) : Int) := by rw [wrap_i64 (by omega) (by omega)]; omega
  have q3 : binI .quo .i64 ((2 * k : Nat) : Int) .i64 2 = some (.int .i64 (k : Int)) := by
    rw [b_quo_i _ _ (by decide), Int.tdiv_eq_ediv_of_nonneg (by omega), wrap_i64 (by omega) (by omega)]
    congr 2
    omega
  have q4 : IntKind.i64.wrap (2 * (k : Int)) = ((2 * k : Nat) : Int) := by rw [wrap_i64 (by omega) (by omega)]; omega
  have q5 : IntKind.i64.wrap (13 + ((2 * k : Nat) : Int)) = ((13 + 2 * k : Nat) : Int) := by rw [wrap_i64 (by omega) (by omega)]; omega
  have q6 : IntKind.i64.wrap (32 * ((13 + 2 * k : Nat) : Int)) = ((32 * (13 + 2 * k) : Nat) : Int) := by rw [wrap_i64 (by omega) (by omega)]; omega
  have d1 : (0 ≤ (k : Int)) = True := eq_true (by omega)
  have d2 : ((32 : Int) * (k : Int) ≤ 281474976710656) = True := eq_true (by omega)
  have d3 : ((k : Int) ≤ 9223372036854775807) = True := eq_true (by omega)
  have d4 := scs_zero k
  have eL : (scs k fun _ => 0) = scs k (dL F 0) := scs_congr fun a _ => (dvl0 F (11 + 2 * a)).symm
  have eR : (scs k fun _ => 0) = scs k (dR F 0) := scs_congr fun a _ => (dvl0 F (12 + 2 * a)).symm
  have eP : ([.int .u64 (nl 0), .int .u64 (nl 0), .int .u64 (nl 0), .int .u64 (nl 0), .int .u64 (nl 0), .int .u64 (nl 0), .int .u64 (nl 0), .int .u64 (nl 0), .int .u64 (nl 0), .int .u64 (nl 0), .int .u64 (nl 0), .int .u64 (nl 0), .int .u64 (nl 0), .int .u64 (nl 0), .int .u64 (nl 0), .int .u64 (nl 0), .int .u64 (nl 0), .int .u64 (nl 0), .int .u64 (nl 0), .int .u64 (nl 0), .int .u64 (nl 0), .int .u64 (nl 0), .int .u64 (nl 0), .int .u64 (nl 0), .int .u64 (nl 0), .int .u64 (nl 0), .int .u64 (nl 0), .int .u64 (nl 0), .int .u64 (nl 0), .int .u64 (nl 0), .int .u64 (nl 0), .int .u64 (nl 0), .int .u64 (nl 0), .int .u64 (nl 0), .int .u64 (nl 0), .int .u64 (nl 0), .int .u64 (nl 0), .int .u64 (nl 0), .int .u64 (nl 0), .int .u64 (nl 0), .int .u64 (nl 0), .int .u64 (nl 0), .int .u64 (nl 0), .int .u64 (nl 0), .sl 2 0 k (.exact k), .sl 3 0 k (.exact k), .int .u64 (nl 0), .int .u64 (nl 0), .int .u64 (nl 0), .int .u64 (nl 0), .int .u64 (nl 0), .int .u64 (nl 0), .int .u64 (nl 0), .int .u64 (nl 0)] : List V) = pc (dP F k 0) (.sl 2 0 k (.exact k)) (.sl 3 0 k (.exact k)) := (show _ = pc (fun _ => 0) (.sl 2 0 k (.exact k)) (.sl 3 0 k (.exact k)) from rfl).trans (pc_congr _ _ fun a _ => (dvl0 F _).symm)
  have eZ : ([.int .u64 (nl 0), .int .u64 (nl 0), .int .u64 (nl 0), .int .u64 (nl 0), .int .u64 (nl 0), .int .u64 (nl 0), .int .u64 (nl 0), .int .u64 (nl 0), .int .u64 (nl 0), .int .u64 (nl 0), .int .u64 (nl 0), .int .u64 (nl 0), .int .u64 (nl 0), .int .u64 (nl 0), .int .u64 (nl 0), .int .u64 (nl 0), .int .u64 (nl 0), .int .u64 (nl 0), .int .u64 (nl 0), .int .u64 (nl 0), .int .u64 (nl 0), .int .u64 (nl 0), .int .u64 (nl 0), .int .u64 (nl 0), .int .u64 (nl 0), .int .u64 (nl 0), .int .u64 (nl 0), .int .u64 (nl 0), .int .u64 (nl 0), .int .u64 (nl 0), .int .u64 (nl 0), .int .u64 (nl 0), .int .u64 (nl 0), .int .u64 (nl 0), .int .u64 (nl 0), .int .u64 (nl 0), .int .u64 (nl 0), .int .u64 (nl 0), .int .u64 (nl 0), .int .u64 (nl 0), .int .u64 (nl 0), .int .u64 (nl 0), .int .u64 (nl 0), .int .u64 (nl 0), .nils, .nils, .int .u64 (nl 0), .int .u64 (nl 0), .int .u64 (nl 0), .int .u64 (nl 0), .int .u64 (nl 0), .int .u64 (nl 0), .int .u64 (nl 0), .int .u64 (nl 0)] : List V) = z54 := rfl
  refine vcall_body Tryd.func7 nm7 code7 nt7 ?_
  refine run_driveS 80 ?_
  simp only [go_sem, v7, v7_0, v7_1, v7_2, q1, q2, q3, q4, q5, q6, hk0, c1]
  refine run_cond_f (by rfl) ?_
  refine run_driveS 80 ?_
  simp only [go_sem]
  refine run_drw (by kernel_rfl) ?_
  refine drun_drive 40 (p := (_, _)) ?_
  simp only [go_sem, v7_4, d1, d2, d3, d4, Int.toNat_natCast, restore, Option.join_some, maskH, List.mapIdx_cons, List.mapIdx_nil, List.contains_cons, List.contains_nil, Bool.or_false, Bool.or_true, Bool.false_or, Bool.true_or, Nat.reduceBEq]
  refine drun_end ?_
  refine run_driveS 80 ?_
  simp only [go_sem, v7_5, v7_6]
  refine run_rename [0, 1, 2, 3, 4, 5] (st' := ⟨[.unk, .unk, .ptr 1 0, .int .i64 0, .unk, .ptr 4 0, .ptr 5 0] ++ List.replicate 53 .unk, [some ⟨.ro, brow N F⟩, some ⟨.rw, z54⟩, some ⟨.rw, scs k (dL F 0)⟩, some ⟨.rw, scs k (dR F 0)⟩, some ⟨.rw, pc (dP F k 0) (.sl 2 0 k (.exact k)) (.sl 3 0 k (.exact k))⟩, some ⟨.rw, [.sl 0 0 (32 * (13 + 2 * k)) (.exact m), .int .i64 0]⟩]⟩) rfl (by simp) ?_ ?_ ?_ ?_
  · refine hfit_cons rfl (bfit_g (brow_rens ..)) (hfit_cons rfl (bfit_rw ?_) (hfit_cons rfl (bfit_rw ?_) (hfit_cons rfl (bfit_rw ?_) (hfit_cons rfl (bfit_rw ?_) (hfit_cons rfl (bfit_g rfl) hfit_nil)))))
    · exact hz54.trans eZ.symm
    · rw [scs_rens, eL]
    · rw [scs_rens, eR]
    · rw [pc_ren]; exact eP.symm
  · exact uniq_nodup (by decide)
  · simp only [go_sem, fit, ren, gmap, true_or, or_true]
  refine run_driveS 80 ?_
  simp only [go_sem]
  have f1 : gmap [4, 2, 3] 6 0 = 4 := rfl
  have f2 : gmap [4, 2, 3] 6 1 = 2 := rfl
  have f3 : gmap [4, 2, 3] 6 2 = 3 := rfl
  have w0 : wrB (some ⟨.ro, pc (dP F k 0) (.sl 1 0 k (.exact k)) (.sl 2 0 k (.exact k))⟩) = false := rfl
  have w1 : wrB (some ⟨.ro, scs k (dL F 0)⟩) = false := rfl
  have w2 : wrB (some ⟨.ro, scs k (dR F 0)⟩) = false := rfl
  refine run_call' rfl ?_
  simp only [go_sem, calV]
  refine vcall_at (Q := fun w h => w = .sl 3 0 (13 + 2 * k) (.grow 2) ∧ h = [none, none, none, some ⟨.grow, frow k b4 (13 + 2 * k)⟩, BX k (13 + 2 * k) 0, BX k (13 + 2 * k) 1, BX k (13 + 2 * k) 2, BX k (13 + 2 * k) 3, BX k (13 + 2 * k) 4, BX k (13 + 2 * k) 5, BX k (13 + 2 * k) 6, BX k (13 + 2 * k) 7, BX k (13 + 2 * k) 8, BX k (13 + 2 * k) 9, BX k (13 + 2 * k) 10, BX k (13 + 2 * k) 11, BX k (13 + 2 * k) 12, BX k (13 + 2 * k) 13, BX k (13 + 2 * k) 14, BX k (13 + 2 * k) 15, BX k (13 + 2 * k) 16, BX k (13 + 2 * k) 17, BX k (13 + 2 * k) 18, BX k (13 + 2 * k) 19, BX k (13 + 2 * k) 20, BX k (13 + 2 * k) 21, BX k (13 + 2 * k) 22, BX k (13 + 2 * k) 23, BX k (13 + 2 * k) 24, BX k (13 + 2 * k) 25, BX k (13 + 2 * k) 26, BX k (13 + 2 * k) 27, BX k (13 + 2 * k) 28, BX k (13 + 2 * k) 29, BX k (13 + 2 * k) 30, BX k (13 + 2 * k) 31, BX k (13 + 2 * k) 32]) (fields_fn (dP F k 0) k (.sl 1 0 k (.exact k)) (.sl 2 0 k (.exact k)) (some ⟨.ro, scs k (dL F 0)⟩) (some ⟨.ro, scs k (dR F 0)⟩) hk rfl rfl rfl rfl (fun _ => ⟨_, rfl⟩) (fun _ => ⟨_, rfl⟩) (fun f h => by rw [ren, h]) (fun f h => by rw [ren, h]) (fun _ => bfit_g (scs_rens ..)) (fun _ => bfit_g (scs_rens ..)) ⟨rfl, rfl⟩) [4, 2, 3] (by simp) ?_ ?_ ?_ ?_
  · exact hfit_cons rfl (bfit_ro (by rw [pc_ren]; rfl)) (hfit_cons rfl (bfit_ro (scs_rens ..)) (hfit_cons rfl (bfit_ro (scs_rens ..)) hfit_nil))
  · exact uniq_nodup (by decide)
  · simp only [rens, ren, gmap]
  rintro _ _ ⟨rfl, rfl⟩
  simp only [puts, w0, w1, w2, Bool.false_eq_true, if_false, List.map_cons, List.map_nil, List.length_cons, List.length_nil, Nat.reduceAdd, BX_ren, f1, f2, f3, Option.map_some, renB, frow_ren k b4 (fun j => 7 + j) (gmap [4, 2, 3] 6) (13 + 2 * k) (fun j _ => by rw [gmap_ge (by show 3 ≤ 4 + j; omega)]; show 6 + (4 + j - 3) = 7 + j; omega), List.cons_append, List.nil_append]
  refine run_driveS 80 ?_
  simp only [go_sem]
  refine run_rename [0, 1, 2, 3, 4, 5, 6, 7, 8, 9, 10, 11, 12, 13, 14, 15, 16, 17, 18, 19, 20, 21, 22, 23, 24, 25, 26, 27, 28, 29, 30, 31, 32, 33, 34, 35, 36, 37, 38, 39] (st' := ⟨tmD k 0, hpD .ro N F z54 k m 0 0⟩) rfl (by simp) ?_ ?_ ?_ ?_
  · have hz : ∀ {f : Nat → Nat}, rens f z54 = z54 := hz54
    exact hfit_cons rfl (bfit_g (brow_rens ..)) (hfit_cons rfl (bfit_g hz) (hfit_cons rfl (bfit_g (scs_rens ..)) (hfit_cons rfl (bfit_g (scs_rens ..)) (hfit_cons rfl (bfit_g (by rw [pc_ren]; rfl)) (hfit_cons rfl (bfit_g rfl) (hfit_cons rfl (bfit_g (frow_ren k _ _ _ _ (fun j hj => gmap_pre 40 [] (by decide +kernel) (by omega)))) (hfit_cons rfl (BXp_keep rfl rfl rfl k _ 0) (hfit_cons rfl (BXp_keep rfl rfl rfl k _ 1) (hfit_cons rfl (BXp_keep rfl rfl rfl k _ 2) (hfit_cons rfl (BXp_keep rfl rfl rfl k _ 3) (hfit_cons rfl (BXp_keep rfl rfl rfl k _ 4) (hfit_cons rfl (BXp_keep rfl rfl rfl k _ 5) (hfit_cons rfl (BXp_keep rfl rfl rfl k _ 6) (hfit_cons rfl (BXp_keep rfl rfl rfl k _ 7) (hfit_cons rfl (BXp_keep rfl rfl rfl k _ 8) (hfit_cons rfl (BXp_keep rfl rfl rfl k _ 9) (hfit_cons rfl (BXp_keep rfl rfl rfl k _ 10) (hfit_cons rfl (BXp_keep rfl rfl rfl k _ 11) (hfit_cons rfl (BXp_keep rfl rfl rfl k _ 12) (hfit_cons rfl (BXp_keep rfl rfl rfl k _ 13) (hfit_cons rfl (BXp_keep rfl rfl rfl k _ 14) (hfit_cons rfl (BXp_keep rfl rfl rfl k _ 15) (hfit_cons rfl (BXp_keep rfl rfl rfl k _ 16) (hfit_cons rfl (BXp_keep rfl rfl rfl k _ 17) (hfit_cons rfl (BXp_keep rfl rfl rfl k _ 18) (hfit_cons rfl (BXp_keep rfl rfl rfl k _ 19) (hfit_cons rfl (BXp_keep rfl rfl rfl k _ 20) (hfit_cons rfl (BXp_keep rfl rfl rfl k _ 21) (hfit_cons rfl (BXp_keep rfl rfl rfl k _ 22) (hfit_cons rfl (BXp_keep rfl rfl rfl k _ 23) (hfit_cons rfl (BXp_keep rfl rfl rfl k _ 24) (hfit_cons rfl (BXp_keep rfl rfl rfl k _ 25) (hfit_cons rfl (BXp_keep rfl rfl rfl k _ 26) (hfit_cons rfl (BXp_keep rfl rfl rfl k _ 27) (hfit_cons rfl (BXp_keep rfl rfl rfl k _ 28) (hfit_cons rfl (BXp_keep rfl rfl rfl k _ 29) (hfit_cons rfl (BXp_keep rfl rfl rfl k _ 30) (hfit_cons rfl (BXp_keep rfl rfl rfl k _ 31) (hfit_cons rfl (BXp_keep rfl rfl rfl k _ 32) hfit_nil)))))))))))))))))))))))))))))))))))))))
  · exact uniq_nodup (by decide +kernel)
  · simp only [go_sem, tmD, fit, ren, gmap, true_or, or_true]
  refine d7_loop .ro N F z54 k m hG rfl hF hz54 hk hN hm (fun o => ?_) (13 + 2 * k) 0 0 (by omega) (fun _ => rfl)
  have p0 : (pc (dP F k (13 + 2 * k)) (.sl 2 0 k (.exact k)) (.sl 3 0 k (.exact k))).all V.known = true := pc_known _ _ _ rfl rfl
  have p1 := pc_len (dP F k (13 + 2 * k)) (.sl 2 0 k (.exact k)) (.sl 3 0 k (.exact k))
  have p2 : z54.length = 54 := rfl
  have p3 : z54.all V.known = true := rfl
  have p4 : (pc (dP F k (13 + 2 * k)) (.sl 2 0 k (.exact k)) (.sl 3 0 k (.exact k))).take 54 = pc (dP F k (13 + 2 * k)) (.sl 2 0 k (.exact k)) (.sl 3 0 k (.exact k)) := List.take_of_length_le (Nat.le_of_eq p1)
  have p7 := pc_one (dP F k (13 + 2 * k)) (.sl 2 0 k (.exact k)) (.sl 3 0 k (.exact k)) rfl rfl
  have p5 : z54.take 54 = z54 := rfl
  have p6 : z54.drop 54 = [] := rfl
  unfold tmD hpD
  by_cases hE : er F (13 + 2 * k) = 0
  · have hb : (er F (13 + 2 * k) == 0) = true := by simpa using hE
    rw [if_pos hE] at hQ
    refine run_driveS 80 ?_
    simp only [go_sem, v7_14, hb]
    refine run_cond_f (by rfl) ?_
    refine run_driveS 80 ?_
    simp only [go_sem, v7_16, p0, p1, p2, p3, p4, p5, p6, p7, List.append_nil]
    refine run_ret_drop Tryd.func7 res7 [0, 2, 3] (.tup [.agg (pc (dP F k (13 + 2 * k)) (.sl 1 0 k (.exact k)) (.sl 2 0 k (.exact k))), .int .i64 0]) _ rfl (by simp) ?_ ?_ ?_ hQ
    · exact hfit_cons_none (hfit_cons rfl (bfit_g (scs_rens ..)) (hfit_cons rfl (bfit_g (scs_rens ..)) hfit_nil))
    · exact uniq_nodup (by decide +kernel)
    · simp only [go_sem, rr7, p0, p1, p4, ren, rens, gmap, pc_ren]
  · have hb : (er F (13 + 2 * k) == 0) = false := by simpa using hE
    rw [if_neg hE] at hQ
    refine run_driveS 80 ?_
    simp only [go_sem, v7_14, hb]
    refine run_cond_t (by rfl) ?_
    refine run_driveS 80 ?_
    simp only [go_sem]
    refine run_drw (by kernel_rfl) ?_
    refine drun_drive 40 (p := (_, _)) ?_
    simp only [go_sem, v7_15, p0, p1, p2, p3, p4, p5, p6, List.append_nil, restore, Option.join_some, maskH, List.mapIdx_cons, List.mapIdx_nil, List.contains_cons, List.contains_nil, Bool.or_false, Bool.or_true, Bool.false_or, Bool.true_or, Nat.reduceBEq]
    refine drun_end ?_
    refine run_driveS 80 ?_
    simp only [go_sem]
    refine run_ret_drop Tryd.func7 res7 [0, 2, 3] (.tup [.agg z54, .int .i64 (er F (13 + 2 * k))]) _ rfl (by simp) ?_ ?_ ?_ hQ
    · exact hfit_cons_none (hfit_cons rfl (bfit_g (scs_rens ..)) (hfit_cons rfl (bfit_g (scs_rens ..)) hfit_nil))
    · exact uniq_nodup (by decide +kernel)
    · simp only [go_sem, rr7, ren, rens, gmap, hz54]
      exact congrArg (fun x => V.tup [V.agg x, V.int .i64 (er F (13 + 2 * k))]) eZ
end
end
section
attribute [local go_sem ↓] lc_len lc_take lc_drop lc_known lc_one lc_rens lc_cells lw_known lw_agg lw_asG scs_known scs_one scs_len
attribute [local go_sem ↓] brow_len brow_known brow_one brow_rens bw_known bw_agg bw_cells bw_asG
attribute [local go_sem ↓] ecs_len ecs_take ecs_drop ecs_known ecs_one ecs_rens ecs_fit ecs_cells ew_known ew_agg ew_asG ecs_kind ecs_k ecs_l
attribute [local go_sem] lt_nat lt_natl lt_lnat lt_ll bool_tf bool_ft
set_option maxRecDepth 100000
set_option maxHeartbeats 2000000
def e0 : List V := .int .i64 0 :: (pz ++ (lc 0 ++ [.nils]))
theorem e0_rens (g : Nat → Nat) : rens g e0 = e0 := by simp only [e0, pz, rens, rens_append, lc_rens, ren]
theorem ref_55 (A : Nat) (hA : A < 115792089237316195423570985008687907853269984665640564039457584007913129639936) {h : Heap} {R : V → Heap → Prop} (hQ : R (lw (A % ell)) h) : VCall Tryd.prog G 55 [lw A] h R := by
  refine vcall_plain (Q := fun v => v = lw (A % ell)) ?_ (fun g => by simp only [rens, lw_plain, ew_plain, ren]) (fun v g hv => by subst hv; exact lw_plain _ _) (fun v hv => by subst hv; exact hQ)
  refine vcall_body Tryd.func55 nm55 code55 nt55 ?_
  refine run_driveS 80 ?_
  simp only [go_sem, v55, v55_0, v55_1]
  refine run_call' rfl ?_
  simp only [go_sem, calV]
  refine ref_least _ hA ?_
  refine run_driveS 80 ?_
  simp only [go_sem]
  refine run_ret_drop Tryd.func55 res55 [] (lw (A % ell)) [] rfl (by simp) trivial (by simp [uniq]) ?_ ⟨rfl, rfl⟩
  simp only [go_sem, rr55, lw_plain, ew_plain, ren]
theorem num_ (A : Nat) (hA : A < 115792089237316195423570985008687907853269984665640564039457584007913129639936) {h : Heap} {R : V → Heap → Prop} (hQ : R (lw (A % ell)) h) : VCall Tryd.prog G 13 [lw A] h R := by
  refine vcall_plain (Q := fun v => v = lw (A % ell)) ?_ (fun g => by simp only [rens, lw_plain, ew_plain, ren]) (fun v g hv => by subst hv; exact lw_plain _ _) (fun v hv => by subst hv; exact hQ)
  refine vcall_body Tryd.func13 nm13 code13 nt13 ?_
  refine run_driveS 80 ?_
  simp only [go_sem, v13, v13_0, v13_1]
  refine run_call' rfl ?_
  simp only [go_sem, calV]
  refine ref_least _ hA ?_
  refine run_driveS 80 ?_
  simp only [go_sem]
  refine run_ret_drop Tryd.func13 res13 [] (lw (A % ell)) [] rfl (by simp) trivial (by simp [uniq]) ?_ ⟨rfl, rfl⟩
  simp only [go_sem, rr13, lw_plain, ew_plain, ren]
theorem of_line (A : Nat) (hA : A < 115792089237316195423570985008687907853269984665640564039457584007913129639936) {h : Heap} {R : V → Heap → Prop} (hQ : R (ew (A % ell)) h) : VCall Tryd.prog G 31 [lw A] h R := by
  refine vcall_plain (Q := fun v => v = ew (A % ell)) ?_ (fun g => by simp only [rens, lw_plain, ew_plain, ren]) (fun v g hv => by subst hv; exact ew_plain _ _) (fun v hv => by subst hv; exact hQ)
  refine vcall_body Tryd.func31 nm31 code31 nt31 ?_
  refine run_driveS 80 ?_
  simp only [go_sem, v31, v31_0, v31_1]
  refine run_call' rfl ?_
  simp only [go_sem, calV]
  refine ref_55 _ hA ?_
  refine run_driveS 80 ?_
  simp only [go_sem]
  refine run_call' rfl ?_
  simp only [go_sem, calV]
  refine line_of _ ?_
  refine run_driveS 80 ?_
  simp only [go_sem]
  refine run_ret_drop Tryd.func31 res31 [] (ew (A % ell)) [] rfl (by simp) trivial (by simp [uniq]) ?_ ⟨rfl, rfl⟩
  simp only [go_sem, rr31, lw_plain, ew_plain, ren]
theorem neutral {h : Heap} {R : V → Heap → Prop} (hQ : R (ew 0) h) : VCall Tryd.prog G 30 [.int .i64 2] h R := by
  refine vcall_plain (Q := fun v => v = ew 0) ?_ (fun g => by simp only [rens, ren]) (fun v g hv => by subst hv; exact ew_plain _ g) (fun v hv => by subst hv; exact hQ)
  refine vcall_body Tryd.func30 nm30 code30 nt30 ?_
  refine run_driveS 80 ?_
  simp only [go_sem, v30, v30_0, v30_1]
  refine run_ret_drop Tryd.func30 res30 [] (ew 0) [] rfl (by simp) trivial (by simp [uniq]) ?_ ⟨rfl, rfl⟩
  simp only [go_sem, rr30, ew_plain]
  rfl
theorem encode_e (A : Nat) {h : Heap} {R : V → Heap → Prop} (hQ : R (bw (enc A)) h) : VCall Tryd.prog G 16 [ew A] h R := by
  refine vcall_plain (Q := fun v => v = bw (enc A)) ?_ (fun g => by simp only [rens, lw_plain, ew_plain, ren]) (fun v g hv => by subst hv; exact bw_plain _ _) (fun v hv => by subst hv; exact hQ)
  refine vcall_body Tryd.func16 nm16 code16 nt16 ?_
  refine run_driveS 80 ?_
  simp only [go_sem, v16, v16_0, v16_1, v16_6, v16_2]
  refine run_cond_f (by simp only [go_sem]; rfl) ?_
  refine run_driveS 80 ?_
  simp only [go_sem, v16_4]
  refine run_cond_t (by simp only [go_sem]) ?_
  refine run_driveS 80 ?_
  simp only [go_sem, v16_5]
  refine run_call' rfl ?_
  simp only [go_sem, calV]
  refine ref_encode A ?_
  refine run_driveS 80 ?_
  simp only [go_sem, brow_take, brow_drop32]
  refine run_ret_drop Tryd.func16 res16 [] (bw (enc A)) [] rfl (by simp) trivial (by simp [uniq]) ?_ ⟨rfl, rfl⟩
  simp only [go_sem, rr16, bw_plain, brow_take]
theorem line_is (A K : Nat) (hA : A < 115792089237316195423570985008687907853269984665640564039457584007913129639936) (hK : K < 115792089237316195423570985008687907853269984665640564039457584007913129639936) {h : Heap} {R : V → Heap → Prop} (hQ : R (.bool (decide (A % ell = K))) h) : VCall Tryd.prog G 18 [lw A, ew K] h R := by
  refine vcall_plain (Q := fun v => v = .bool (decide (A % ell = K))) ?_ (fun g => by simp only [rens, lw_plain, ew_plain]) (fun v g hv => by subst hv; rfl) (fun v hv => by subst hv; exact hQ)
  refine vcall_body Tryd.func18 nm18 code18 nt18 ?_
  refine run_driveS 80 ?_
  simp only [go_sem, v18, v18_0, v18_1]
  refine run_cond_f (by simp only [go_sem]; rfl) ?_
  refine run_driveS 80 ?_
  simp only [go_sem]
  refine run_drw (by kernel_rfl) ?_
  refine drun_drive 40 (p := (_, _)) ?_
  simp only [go_sem, v18_3, restore, Option.join_some, maskH, List.mapIdx_cons, List.mapIdx_nil, List.contains_cons, List.contains_nil, Bool.or_false, Bool.or_true, Bool.false_or, Bool.true_or, Nat.reduceBEq]
  refine drun_call' ?_
  simp only [go_sem, calV, restore, Option.join_some, maskH, List.mapIdx_cons, List.mapIdx_nil, List.contains_cons, List.contains_nil, Bool.or_false, Bool.or_true, Bool.false_or, Bool.true_or, Nat.reduceBEq]
  refine of_line _ hA ?_
  refine drun_drive 40 (p := (_, _)) ?_
  simp only [go_sem, restore, Option.join_some, maskH, List.mapIdx_cons, List.mapIdx_nil, List.contains_cons, List.contains_nil, Bool.or_false, Bool.or_true, Bool.false_or, Bool.true_or, Nat.reduceBEq]
  refine drun_call' ?_
  simp only [go_sem, calV, restore, Option.join_some, maskH, List.mapIdx_cons, List.mapIdx_nil, List.contains_cons, List.contains_nil, Bool.or_false, Bool.or_true, Bool.false_or, Bool.true_or, Nat.reduceBEq]
  refine e_same _ _ (Nat.lt_trans (Nat.mod_lt _ ell_pos) (by decide)) hK ?_
  refine drun_drive 40 (p := (_, _)) ?_
  simp only [go_sem, restore, Option.join_some, maskH, List.mapIdx_cons, List.mapIdx_nil, List.contains_cons, List.contains_nil, Bool.or_false, Bool.or_true, Bool.false_or, Bool.true_or, Nat.reduceBEq]
  refine drun_end ?_
  refine run_ret_drop Tryd.func18 res18 [] (.bool (decide (A % ell = K))) [] rfl (by simp) trivial (by simp [uniq]) ?_ ⟨rfl, rfl⟩
  simp only [go_sem, rr18, ren]
theorem num_is (A B : Nat) (hA : A < 115792089237316195423570985008687907853269984665640564039457584007913129639936) (hB : B < 115792089237316195423570985008687907853269984665640564039457584007913129639936) {h : Heap} {R : V → Heap → Prop} (hQ : R (.bool (decide (A = B))) h) : VCall Tryd.prog G 19 [lw A, lw B] h R := by
  refine vcall_plain (Q := fun v => v = .bool (decide (A = B))) ?_ (fun g => by simp only [rens, lw_plain]) (fun v g hv => by subst hv; rfl) (fun v hv => by subst hv; exact hQ)
  have q := lc_eqL hA hB
  refine vcall_body Tryd.func19 nm19 code19 nt19 ?_
  refine run_driveS 80 ?_
  simp only [go_sem, v19, v19_0, v19_1, q]
  refine run_ret_drop Tryd.func19 res19 [] (.bool (decide (A = B))) [] rfl (by simp) trivial (by simp [uniq]) ?_ ⟨rfl, rfl⟩
  simp only [go_sem, rr19, ren]
theorem decode_e (f : Nat → Nat) (hf : ∀ j, f j < 256) {h : Heap} {R : V → Heap → Prop} (hQ : R (.tup [ew (dval f), .int .i64 (derr f)]) h) : VCall Tryd.prog G 33 [.int .i64 2, bw f] h R := by
  refine vcall_plain (Q := fun v => v = .tup [ew (dval f), .int .i64 (derr f)]) ?_ (fun g => by simp only [rens, ren, bw_plain]) (fun v g hv => by subst hv; simp only [ren, rens, ew_plain]) (fun v hv => by subst hv; exact hQ)
  refine vcall_body Tryd.func33 nm33 code33 nt33 ?_
  refine run_driveS 80 ?_
  simp only [go_sem, v33, v33_0, v33_1, v33_12, v33_2]
  refine run_cond_f (by simp only [go_sem]; rfl) ?_
  refine run_driveS 80 ?_
  simp only [go_sem, v33_7]
  refine run_cond_t (by simp only [go_sem]) ?_
  refine run_driveS 80 ?_
  simp only [go_sem, v33_8, brow_take, brow_drop32]
  refine run_call' rfl ?_
  simp only [go_sem, calV]
  refine ref_decode f hf ?_
  refine run_driveS 80 ?_
  simp only [go_sem]
  refine run_driveS 80 ?_
  simp only [go_sem, v33_9]
  unfold dval derr
  by_cases hc : dec f < ell
  · rw [if_pos hc, if_pos hc]
    refine run_cond_f (by simp only [go_sem]) ?_
    refine run_driveS 80 ?_
    simp only [go_sem, v33_11]
    refine run_call' rfl ?_
    simp only [go_sem, calV]
    refine line_of _ ?_
    refine run_driveS 80 ?_
    simp only [go_sem]
    refine run_ret_drop Tryd.func33 res33 [] (.tup [ew (dec f), .int .i64 0]) [] rfl (by simp) trivial (by simp [uniq]) ?_ ⟨rfl, rfl⟩
    simp only [go_sem, rr33, ew_plain, ren, rens]
  · rw [if_neg hc, if_neg hc]
    refine run_cond_t (by simp only [go_sem]; rfl) ?_
    refine run_driveS 80 ?_
    simp only [go_sem, v33_10]
    refine run_call' rfl ?_
    simp only [go_sem, calV]
    refine neutral ?_
    refine run_driveS 80 ?_
    simp only [go_sem]
    refine run_ret_drop Tryd.func33 res33 [] (.tup [ew 0, .int .i64 3]) [] rfl (by simp) trivial (by simp [uniq]) ?_ ⟨rfl, rfl⟩
    simp only [go_sem, rr33, ew_plain, ren, rens]
end
section
attribute [local go_sem ↓] lc_len lc_take lc_drop lc_known lc_one lc_rens lc_cells lw_known lw_agg lw_asG scs_known scs_one scs_len
attribute [local go_sem ↓] brow_len brow_known brow_one brow_rens bw_known bw_agg bw_cells bw_asG
attribute [local go_sem ↓] ecs_len ecs_take ecs_drop ecs_known ecs_one ecs_rens ecs_fit ecs_cells ew_known ew_agg ew_asG ecs_kind ecs_k ecs_l
attribute [local go_sem] lt_nat lt_natl lt_lnat lt_ll bool_tf bool_ft
set_option maxRecDepth 100000
set_option maxHeartbeats 2000000
theorem r_next (N o n m : Nat) (F : Nat → Nat) (h1 : o + n ≤ N) (h2 : 32 ≤ n) (h3 : n ≤ m) (e : Int) (Q : V → Heap → Prop)
    (hQ : Q (bw fun j => F (o + j)) [some ⟨.rw, [.int .i64 2, .sl 1 (o + adv m) (n - 32) (.exact (m - 32)), .int .i64 e]⟩, some ⟨.ro, brow N F⟩]) :
    VCall Tryd.prog G 34 [.ptr 0 0] [some ⟨.rw, [.int .i64 2, .sl 1 o n (.exact m), .int .i64 e]⟩, some ⟨.ro, brow N F⟩] Q := by
  have hmin : min 32 32 = 32 := rfl
  have hcut := brow_cut N F (o := o) (k := 32) (by omega)
  have hne : (brow 32 fun j => F (o + j)) ≠ [] := fun h => by have := congrArg List.length h; rw [brow_len] at this; simp at this
  have c1 : ((m : Int) ≤ (m : Int)) = True := eq_true (Int.le_refl _)
  have c2 : ((n : Int) ≤ (m : Int)) = True := eq_true (by omega)
  have c3 : ((32 : Int) ≤ (n : Int)) = True := eq_true (by omega)
  have c4 : ((32 : Int) ≤ (m : Int)) = True := eq_true (by omega)
  have e1 : ((n : Int) - 32).toNat = n - 32 := by omega
  have e2 : ((m : Int) - 32).toNat = m - 32 := by omega
  have e3 := adv_eq m
  refine vcall_body Tryd.func34 nm34 code34 nt34 ?_
  refine run_driveS 80 ?_
  simp only [go_sem, v34, v34_0, zero32]
  refine run_driveS 80 ?_
  simp only [go_sem, v34_1, zero32]
  refine run_drw (by kernel_rfl) ?_
  refine drun_drive 40 (p := (_, _)) ?_
  simp only [go_sem, v34_2, hmin, hcut, brow_drop32, List.append_nil, c4, restore, Option.join_some, maskH, List.mapIdx_cons, List.mapIdx_nil, List.contains_cons, List.contains_nil, Bool.or_false, Bool.or_true, Bool.false_or, Bool.true_or, Nat.reduceBEq]
  refine drun_end ?_
  refine run_driveS 80 ?_
  simp only [go_sem, v34_3, c1, c2, c3, e1, e2, e3]
  refine run_driveS 80 ?_
  simp only [go_sem, v34_4, brow_take, brow_drop32]
  refine run_ret_drop Tryd.func34 res34 [0, 1] (bw fun j => F (o + j)) _ rfl (by simp) ?_ ?_ ?_ hQ
  · exact hfit_cons rfl (bfit_g rfl) (hfit_cons rfl (bfit_g (brow_rens ..)) hfit_nil)
  · exact uniq_nodup (by decide)
  · simp only [go_sem, rr34, bw_plain, brow_take]
theorem r_num (N o n m : Nat) (F : Nat → Nat) (hF : ∀ j, F j < 256) (h1 : o + n ≤ N) (h2 : 32 ≤ n) (h3 : n ≤ m) (e : Int) (Q : V → Heap → Prop)
    (hQ : Q (lw (dval fun j => F (o + j))) [some ⟨.rw, [.int .i64 2, .sl 1 (o + adv m) (n - 32) (.exact (m - 32)), .int .i64 (if e = 0 then derr (fun j => F (o + j)) else e)]⟩, some ⟨.ro, brow N F⟩]) :
    VCall Tryd.prog G 22 [.ptr 0 0] [some ⟨.rw, [.int .i64 2, .sl 1 o n (.exact m), .int .i64 e]⟩, some ⟨.ro, brow N F⟩] Q := by
  refine vcall_body Tryd.func22 nm22 code22 nt22 ?_
  refine run_driveS 80 ?_
  simp only [go_sem, v22, v22_0]
  refine run_driveS 80 ?_
  simp only [go_sem, v22_1]
  refine run_call' rfl ?_
  simp only [go_sem, calV]
  refine vcall_at (r_next N o n m F h1 h2 h3 e (fun v k => v = bw (fun j => F (o + j)) ∧ k = _) ⟨rfl, rfl⟩) [0, 1] (by simp) ?_ ?_ ?_ ?_
  · exact hfit_cons rfl (bfit_g rfl) (hfit_cons rfl (bfit_g (brow_rens ..)) hfit_nil)
  · exact uniq_nodup (by decide)
  · simp only [rens, ren, gmap]
  rintro v k ⟨rfl, rfl⟩
  simp only [puts, wrB, Bool.false_eq_true, if_false, if_true, List.set_cons_zero, List.set_cons_succ, Option.map_some, renB, rens, ren, gmap, List.append_nil, List.map_nil, bw_plain]
  refine run_driveS 80 ?_
  simp only [go_sem]
  refine run_call' rfl ?_
  simp only [go_sem, calV]
  refine ref_decode _ (fun j => hF _) ?_
  refine run_driveS 80 ?_
  simp only [go_sem]
  by_cases hc : e = 0
  · have hb : (e == 0) = true := by simpa using hc
    rw [if_pos hc] at hQ
    refine run_driveS 80 ?_
    simp only [go_sem, v22_2, hb]
    refine run_cond_t (by rfl) ?_
    refine run_driveS 80 ?_
    simp only [go_sem, v22_3]
    refine run_driveS 80 ?_
    simp only [go_sem, v22_4]
    refine run_ret_drop Tryd.func22 res22 [0, 1] (lw (dval fun j => F (o + j))) _ rfl (by simp) ?_ ?_ ?_ hQ
    · exact hfit_cons rfl (bfit_g rfl) (hfit_cons rfl (bfit_g (brow_rens ..)) hfit_nil)
    · exact uniq_nodup (by decide)
    · simp only [go_sem, rr22, lw_plain]
  · have hb : (e == 0) = false := by simpa using hc
    rw [if_neg hc] at hQ
    refine run_driveS 80 ?_
    simp only [go_sem, v22_2, hb]
    refine run_cond_f (by rfl) ?_
    refine run_driveS 80 ?_
    simp only [go_sem]
    refine run_driveS 80 ?_
    simp only [go_sem, v22_4]
    refine run_ret_drop Tryd.func22 res22 [0, 1] (lw (dval fun j => F (o + j))) _ rfl (by simp) ?_ ?_ ?_ hQ
    · exact hfit_cons rfl (bfit_g rfl) (hfit_cons rfl (bfit_g (brow_rens ..)) hfit_nil)
    · exact uniq_nodup (by decide)
    · simp only [go_sem, rr22, lw_plain]
end
end Go.Vs.Tryd
namespace Go.Vs
variable {P : Program} {G : Nat → List V}
def swapD (s n i : Nat) (x : DS) : DS := if x.i = i then { x with loads := keepN n s :: x.loads.filter (fun a => a != s) } else x
def swapC (s n : Nat) (pl : List DS) : Bool := decide (s < 1000000) && pl.all fun y => match y.vi with
  | .op (some _) _ o => (match lookSlot o with | some t => t != s || (match o with | .ld _ m _ => m == n | _ => false) | none => true)
  | _ => true
theorem swap_i (s n i : Nat) (x : DS) : (swapD s n i x).i = x.i := by unfold swapD; split <;> rfl
theorem swap_fl (s n i : Nat) (x : DS) : (swapD s n i x).fl = x.fl := by unfold swapD; split <;> rfl
theorem swap_vi (s n i : Nat) (x : DS) : (swapD s n i x).vi = x.vi := by unfold swapD; split <;> rfl
theorem swap_as (s n i : Nat) (x : DS) : (swapD s n i x).allocs = x.allocs := by unfold swapD; split <;> rfl
theorem swap_float {ops : Array Oper} {s n i : Nat} {pre : List DS} {x : DS} {rest : List DS} (h : okFloat ops pre x rest = true) : okFloat ops (pre.map (swapD s n i)) (swapD s n i x) (rest.map (swapD s n i)) = true := by
  unfold okFloat at *
  rw [swap_vi]
  split at h <;> try (cases h; done)
  rename_i d g o hv
  simp only [List.all_map, Function.comp_def, swap_vi, swap_i] at h ⊢
  exact h
theorem swap_loads {s n i : Nat} {x : DS} {d : Nat} {o : VOp} {t : Nat} (ht : lookSlot o = some t) (hs : s < 1000000) (hc : t = s → ∃ agg a, o = .ld agg n a)
    (h : (x.loads.contains t || keeps x.loads o t) = true) :
    ((swapD s n i x).loads.contains t || keeps (swapD s n i x).loads o t) = true := by
  unfold swapD
  split
  · by_cases hts : t = s
    · obtain ⟨agg, a, rfl⟩ := hc hts
      subst hts
      simp [keeps]
    · rw [Bool.or_eq_true] at h ⊢
      rcases h with h | h
      · left
        simp only [List.contains_iff_mem, List.mem_cons, List.mem_filter] at h ⊢
        exact .inr ⟨h, by simpa using hts⟩
      · right
        unfold keeps at h ⊢
        split at h
        · rename_i agg m a
          simp only [List.contains_iff_mem, List.mem_cons, List.mem_filter] at h ⊢
          refine .inr ⟨h, ?_⟩
          simp only [bne_iff_ne, ne_eq, keepN]
          omega
        · cases h
  · exact h
theorem swap_eff {ops : Array Oper} {s n i : Nat} {pre : List DS} {x : DS} {rest : List DS} (hc : swapC s n pre = true) (h : okEff ops pre x rest = true) : okEff ops (pre.map (swapD s n i)) (swapD s n i x) (rest.map (swapD s n i)) = true := by
  unfold okEff at *
  unfold swapC at hc
  simp only [Bool.and_eq_true, decide_eq_true_eq] at hc
  obtain ⟨hs, hc⟩ := hc
  rw [Bool.and_eq_true] at h ⊢
  obtain ⟨h1, h2⟩ := h
  refine ⟨?_, ?_⟩
  · simp only [List.all_map, List.any_map, Function.comp_def, swap_i] at h1 ⊢
    exact h1
  · simp only [List.all_map, Function.comp_def, swap_i, swap_fl, swap_vi, swap_as]
    refine List.all_eq_true.2 fun y hy => ?_
    have e1 := List.all_eq_true.1 h2 y hy
    have e2 := List.all_eq_true.1 hc y hy
    rw [Bool.or_eq_true, Bool.and_eq_true] at e1 ⊢
    refine e1.imp id fun e => ⟨e.1, ?_⟩
    have e3 := e.2
    split at e3
    · rename_i d g o hv
      rw [hv] at e2
      simp only at e2 ⊢
      split at e3
      · rename_i hm
        rw [if_pos hm]; exact e3
      · rename_i hm
        rw [if_neg hm]
        split at e3
        · rename_i t ht
          rw [ht] at e2
          simp only at e2 ⊢
          refine swap_loads (d := d) ht hs (fun e => ?_) e3
          subst e
          simp only [bne_self_eq_false, Bool.false_or] at e2
          split at e2
          · rename_i agg m a
            rw [beq_iff_eq] at e2
            subst e2
            exact ⟨_, _, rfl⟩
          · cases e2
        · rfl
    · rename_i hv
      first | rfl | (split; exact absurd ‹_› (hv _ _ _); rfl)
theorem swap_at {ops : Array Oper} {s n i : Nat} : ∀ (l pre : List DS), swapC s n (pre ++ l) = true → okAt ops pre l = true → okAt ops (pre.map (swapD s n i)) (l.map (swapD s n i)) = true
  | [], _, _, _ => rfl
  | x :: r, pre, hc, h => by
    simp only [okAt, List.map_cons, Bool.and_eq_true] at h ⊢
    obtain ⟨⟨h1, h2⟩, h3⟩ := h
    have hpre : swapC s n pre = true := by
      unfold swapC at hc ⊢
      rw [List.all_append] at hc
      simp only [Bool.and_eq_true] at hc ⊢
      exact ⟨hc.1, hc.2.1⟩
    refine ⟨⟨?_, ?_⟩, ?_⟩
    · simp only [swap_i, List.any_map, Function.comp_def]
      exact h1
    · rw [swap_fl]
      split at h2
      · rename_i hf
        rw [if_pos hf]; exact swap_float h2
      · rename_i hf
        rw [if_neg hf]; exact swap_eff hpre h2
    · have := swap_at (i := i) r (pre ++ [x]) (by rw [List.append_assoc]; exact hc) h3
      rw [List.map_append] at this
      exact this
theorem swap_ok {ops : Array Oper} (s n i : Nat) {pl : List DS} (hc : swapC s n pl = true) (h : planOk ops pl = true) : planOk ops (pl.map (swapD s n i)) = true := by
  unfold planOk at *
  simp only [Bool.and_eq_true, List.length_map, List.map_map, List.all_map, Function.comp_def, swap_i] at h ⊢
  exact ⟨⟨⟨h.1.1.1, h.1.1.2⟩, h.1.2⟩, swap_at pl [] hc h.2⟩
theorem swap_is {ops : Array Oper} (s n i : Nat) {pl : List DS} (h : PlanIs P ops pl) : PlanIs P ops (pl.map (swapD s n i)) := by
  intro x hx
  obtain ⟨y, hy, rfl⟩ := List.mem_map.1 hx
  rw [swap_i, swap_vi]
  exact h y hy
theorem run_drwK {f : FuncId} {n : Nat} {md : Md} {Q : V → Heap → Prop} {k : List TI} {st : St} {pl : List DS} (hmx : P.follows .mixedOrders = true) (s c i : Nat) (hc : swapC s c pl = true) (h : DRunM P G f n md Q k (pl.map (swapD s c i)) st) : RunM P G f n md Q (.c (.drw pl) :: k, st) := by
  intro ρ₀ h₀ w₀ ρ a w hn hk hsim ht hd
  simp only [Stmt]
  intro todo hm
  obtain ⟨y, r, rfl, h1, h2⟩ := matchL_cons hm
  cases y <;> simp only [MatchI] at h1 <;> try (exact h1.elim)
  have := cCode_inv h1; simp only at this
  obtain ⟨id, ops, rfl, hpl⟩ := this
  obtain ⟨his, hok⟩ := mkPlan_is hpl
  have his := swap_is (P := P) s c i his
  have hok := swap_ok s c i hc hok
  refine Fin.of_wp (wpIn_region_any hmx ?_)
  have hseen : seen ρ st.heap = st.heap := by
    unfold seen
    apply List.ext_getElem?
    intro i
    rw [List.getElem?_mapIdx]
    cases hh : st.heap[i]? with
    | none => rfl
    | some x =>
      simp only [Option.map_some, Option.some.injEq]
      split
      · rfl
      · rename_i hp
        cases x with
        | none => rfl
        | some b =>
          obtain ⟨p, hp'⟩ := hsim.plc i b hh
          rw [hp'] at hp; simp at hp
  have hlen := (plan_nodup hok).2.1
  have := h r ops [] h2 his hok ρ₀ h₀ w₀ hn [] [] ρ (Array.replicate ops.size false) a { w with drawn := w.drawn + 1 } {
    lsz := by simp
    lst := fun i hi => by simp [hi]
    nod := List.nodup_nil
    sub := fun x hx => by cases hx
    dst := fun x hx => by cases hx
    dst' := fun x hx => by cases hx
    clo := fun i hi => by
      exfalso
      rw [Array.getD_eq_getD_getElem?, Array.getElem?_replicate] at hi
      split at hi <;> simp at hi
    hid := by rw [hide_nil]; exact ht
    def_ := hd
    sim := by rw [hseen]; exact ⟨hsim.rlen, hsim.plc, hsim.cells, hsim.blk, hsim.wr, hsim.disj, hsim.globs, hsim.gsz, hsim.lp⟩
    kps := by rw [hseen]; exact ⟨hk.tape, hk.os, hk.output, hk.size, hk.same, hk.own, hk.fresh, hk.ext, hk.len, hk.dead, hk.unb, hk.rle⟩
    dif := fun x hx => by cases hx
    all := fun id b hl hp => by
      obtain ⟨p, hp'⟩ := hsim.plc id b hl
      rw [hp'] at hp; cases hp }
  simpa [hlen] using this
end Go.Vs
namespace Go.Vs.Tryd
open Go.Proofs
variable {G : Nat → List V}
set_option linter.unusedSimpArgs false
attribute [local go_sem] lenO_nils lenO_sl sliceAtV Int.sub_zero List.length_append List.all_append ge_iff_le gt_iff_lt Int.natCast_nonneg Int.toNat_natCast Nat.mul_one b_and_ll b_shr_ll b_mul_ll b_add_ll b_or_ll b_shl_ll pick_ll pick_lc pick_bb driveS stopV Option.isSome_some Option.isSome_none Kind.m Kind.w Kind.g look_ro look_rw look_grow drive stepV exo expo evs fillV isNil nilKind eqV eqL optA optM sliceAtV ev kn ldc stc splice appV srcV lenV setd wantV exitV rvs rv one List.length_cons List.length_nil List.cons_append List.nil_append List.append_nil List.replicate List.getD_cons_zero List.getD_cons_succ List.set_cons_zero List.set_cons_succ List.getElem?_cons_zero List.getElem?_cons_succ List.getElem?_nil List.take_succ_cons List.take_zero List.take_nil List.drop_succ_cons List.drop_zero List.drop_nil List.all_cons List.all_nil List.any_cons List.any_nil Bool.and_true Bool.true_and Bool.and_self Option.map_some Option.map_none Option.bind_some Option.some.injEq Nat.add_zero Nat.zero_add Int.toNat_zero Int.toNat_one Int.zero_add Int.add_zero if_true if_false ite_true ite_false and_true true_and and_self ne_eq not_false_eq_true not_true_eq_false decide_true decide_false Bool.false_eq_true Bool.not_true Bool.not_false beq_self_eq_true BEq.rfl Bool.not_eq_true Nat.le_refl Int.le_refl Nat.zero_le List.foldl List.map_cons List.map_nil Prod.mk.injEq Int.cast_ofNat_Int Int.zero_le_ofNat b_add_cc b_add_cl b_add_lc b_mul_cc b_mul_cl b_mul_lc b_sub_cc b_sub_cl b_sub_lc b_and_cc b_and_cl b_and_lc b_or_cc b_or_cl b_or_lc b_xor_cc b_xor_cl b_xor_lc b_andNot_cc b_andNot_cl b_andNot_lc b_shr_cc b_shr_cl b_shr_lc b_shl_cc b_shl_cl b_shl_lc b_lss b_leq b_gtr b_geq b_add_i b_sub_i b_mul_i beq_cc beq_cl beq_lc beq_ll b_quo_i b_rem_i neg_u64 wrap_i64 driveD stepD idsAt idOf maskH_nil restore_nil restore_mask List.filterMap_nil List.filterMap_cons VOp.looks VOp.makes exA cells_agg cells_int cells_bool cells_str cells_nilp cells_ptr cells_glob cells_nils cells_sl cells_nilf cells_fn cells_nili cells_ifc known_agg known_tup known_int known_bool known_str known_nilp known_ptr known_glob known_nils known_sl known_nilf known_fn known_nili known_ifc known_unk one_agg one_tup one_int one_bool one_str one_nilp one_ptr one_glob one_nils one_sl one_nilf one_fn one_nili one_ifc asK_int asN_int asB_bool asS_str asG_agg asT_tup true_or or_true false_or or_false
attribute [local go_sem_proc] Nat.reduceAdd Nat.reduceSub Nat.reduceLeDiff Nat.reduceMul Nat.reduceLT Nat.reduceEqDiff Int.reduceLT Int.reduceLE Int.reduceAdd Int.reduceSub Int.reduceMul Int.reduceToNat reduceIte reduceCtorEq Nat.reduceBEq
section
attribute [local go_sem ↓] lc_len lc_take lc_drop lc_known lc_one lc_rens lc_cells lw_known lw_agg lw_asG scs_known scs_one scs_len
attribute [local go_sem ↓] brow_len brow_known brow_one brow_rens bw_known bw_agg bw_cells bw_asG
attribute [local go_sem ↓] ecs_len ecs_take ecs_drop ecs_known ecs_one ecs_rens ecs_fit ecs_cells ew_known ew_agg ew_asG ecs_kind ecs_k ecs_l
attribute [local go_sem] lt_nat lt_natl lt_lnat lt_ll bool_tf bool_ft
set_option maxRecDepth 100000
set_option maxHeartbeats 2000000
theorem KeepOk.one {tm : List V} {h h' : Heap} {n s : Nat} (htm : tm.length ≤ 1000) (hs : s < 1000) (hl : ldc G h' (tm.getD s .unk) n = ldc G h (tm.getD s .unk) n) : KeepOk G [keepN n s] tm h h' := by
  intro n' s' hm
  simp only [List.mem_singleton, keepN] at hm
  by_cases h1 : s' < 1000
  · obtain rfl : n' = n := by omega
    obtain rfl : s' = s := by omega
    exact hl
  · have : tm.getD s' .unk = .unk := by rw [List.getD_eq_getElem?_getD, List.getElem?_eq_none (by omega)]; rfl
    rw [this]
    rfl
theorem r_elem (N o n m : Nat) (F : Nat → Nat) (hF : ∀ j, F j < 256) (h1 : o + n ≤ N) (h2 : 32 ≤ n) (h3 : n ≤ m) (e : Int) (Q : V → Heap → Prop)
    (hQ : Q (ew (dval fun j => F (o + j))) [some ⟨.rw, [.int .i64 2, .sl 1 (o + adv m) (n - 32) (.exact (m - 32)), .int .i64 (if e = 0 then derr (fun j => F (o + j)) else e)]⟩, some ⟨.ro, brow N F⟩]) :
    VCall Tryd.prog G 21 [.ptr 0 0] [some ⟨.rw, [.int .i64 2, .sl 1 o n (.exact m), .int .i64 e]⟩, some ⟨.ro, brow N F⟩] Q := by
  refine vcall_body Tryd.func21 nm21 code21 nt21 ?_
  refine run_driveS 80 ?_
  simp only [go_sem, v21, v21_0]
  refine run_drwK (by kernel_rfl) 8 1 5 (by rfl) ?_
  refine drun_drive 40 (p := (_, _)) ?_
  simp only [go_sem, v21_1, List.map_cons, List.map_nil, swapD, keepN, List.filter, bne, List.getD_nil, restore, Option.join_some, maskH, List.mapIdx_cons, List.mapIdx_nil, List.contains_cons, List.contains_nil, Bool.or_false, Bool.or_true, Bool.false_or, Bool.true_or, Nat.reduceBEq]
  refine drun_callK ?_
  simp only [go_sem, calV, List.getD_nil, restore, Option.join_some, maskH, List.mapIdx_cons, List.mapIdx_nil, List.contains_cons, List.contains_nil, Bool.or_false, Bool.or_true, Bool.false_or, Bool.true_or, Nat.reduceBEq]
  refine vcall_at (r_next N o n m F h1 h2 h3 e (fun v k => v = bw (fun j => F (o + j)) ∧ k = _) ⟨rfl, rfl⟩) [0, 1] (by simp) ?_ ?_ ?_ ?_
  · exact hfit_cons rfl (bfit_g rfl) (hfit_cons rfl (bfit_g (brow_rens ..)) hfit_nil)
  · exact uniq_nodup (by decide)
  · simp only [rens, ren, gmap]
  rintro v k ⟨rfl, rfl⟩
  simp only [puts, wrB, Bool.false_eq_true, if_false, if_true, List.set_cons_zero, List.set_cons_succ, Option.map_some, renB, rens, ren, gmap, List.append_nil, List.map_nil, bw_plain]
  refine ⟨KeepOk.one (n := 1) (s := 8) (by simp) (by decide) rfl, ?_⟩
  refine drun_drive 40 (p := (_, _)) ?_
  simp only [go_sem, restore, Option.join_some, maskH, List.mapIdx_cons, List.mapIdx_nil, List.contains_cons, List.contains_nil, Bool.or_false, Bool.or_true, Bool.false_or, Bool.true_or, Nat.reduceBEq]
  refine drun_call' ?_
  simp only [go_sem, calV, restore, Option.join_some, maskH, List.mapIdx_cons, List.mapIdx_nil, List.contains_cons, List.contains_nil, Bool.or_false, Bool.or_true, Bool.false_or, Bool.true_or, Nat.reduceBEq]
  refine decode_e _ (fun j => hF _) ?_
  refine drun_drive 40 (p := (_, _)) ?_
  simp only [go_sem, restore, Option.join_some, maskH, List.mapIdx_cons, List.mapIdx_nil, List.contains_cons, List.contains_nil, Bool.or_false, Bool.or_true, Bool.false_or, Bool.true_or, Nat.reduceBEq]
  refine drun_end ?_
  refine run_driveS 80 ?_
  simp only [go_sem]
  by_cases hc : e = 0
  · have hb : (e == 0) = true := by simpa using hc
    rw [if_pos hc] at hQ
    refine run_driveS 80 ?_
    simp only [go_sem, v21_2, hb]
    refine run_cond_t (by rfl) ?_
    refine run_driveS 80 ?_
    simp only [go_sem, v21_3]
    refine run_driveS 80 ?_
    simp only [go_sem, v21_4]
    refine run_ret_drop Tryd.func21 res21 [0, 1] (ew (dval fun j => F (o + j))) _ rfl (by simp) ?_ ?_ ?_ hQ
    · exact hfit_cons rfl (bfit_g rfl) (hfit_cons rfl (bfit_g (brow_rens ..)) hfit_nil)
    · exact uniq_nodup (by decide)
    · simp only [go_sem, rr21, ew_plain]
  · have hb : (e == 0) = false := by simpa using hc
    rw [if_neg hc] at hQ
    refine run_driveS 80 ?_
    simp only [go_sem, v21_2, hb]
    refine run_cond_f (by rfl) ?_
    refine run_driveS 80 ?_
    simp only [go_sem]
    refine run_driveS 80 ?_
    simp only [go_sem, v21_4]
    refine run_ret_drop Tryd.func21 res21 [0, 1] (ew (dval fun j => F (o + j))) _ rfl (by simp) ?_ ?_ ?_ hQ
    · exact hfit_cons rfl (bfit_g rfl) (hfit_cons rfl (bfit_g (brow_rens ..)) hfit_nil)
    · exact uniq_nodup (by decide)
    · simp only [go_sem, rr21, ew_plain]
end
section
attribute [local go_sem ↓] lc_len lc_take lc_drop lc_known lc_one lc_rens lc_cells lw_known lw_agg lw_asG scs_known scs_one scs_len
attribute [local go_sem ↓] brow_len brow_known brow_one brow_rens bw_known bw_agg bw_cells bw_asG
attribute [local go_sem ↓] ecs_len ecs_take ecs_drop ecs_known ecs_one ecs_rens ecs_fit ecs_cells ew_known ew_agg ew_asG ecs_kind ecs_k ecs_l
attribute [local go_sem] lt_nat lt_natl lt_lnat lt_ll bool_tf bool_ft
set_option maxRecDepth 100000
set_option maxHeartbeats 2000000
theorem encode_bad (v : Nat → Nat) (l r : V) {kl kr : Nat} (hl : lenO l = some kl) (hr : lenO r = some kr) (hlk : l.known = true) (hrk : r.known = true) (hb : kl ≠ kr ∨ 10 < kl) {Q : V → Heap → Prop}
    (hQ : Q (.tup [.nils, .int .i64 2]) [none, none, none]) : VCall Tryd.prog G 5 [.agg (pc v l r)] [none, none, none] Q := by
  have p0 := pc_known v l r hlk hrk
  have p1 := pc_l v l r
  have p2 := pc_r v l r
  have p3 := pc_len v l r
  refine vcall_body Tryd.func5 nm5 code5 nt5 ?_
  by_cases he : kl = kr
  · subst he
    have c1 : ((10 : Int) < (kl : Int)) = True := eq_true (by omega)
    refine run_driveS 80 ?_
    simp only [go_sem, v5, v5_0, v5_1, p0, p1, p2, p3, hl, hr, hlk, hrk, c1]
    refine run_cond_t (by rfl) ?_
    refine run_driveS 80 ?_
    simp only [go_sem, v5_2]
    refine run_ret_drop Tryd.func5 res5 [0, 1, 2] (.tup [.nils, .int .i64 2]) _ rfl (by simp) ?_ ?_ ?_ hQ
    · exact hfit_cons_none (hfit_cons_none (hfit_cons_none hfit_nil))
    · exact uniq_nodup (by decide)
    · simp only [go_sem, rr5, rens, ren, gmap]
  · have c1 : ((kl : Int) == (kr : Int)) = false := by
      rw [beq_eq_false_iff_ne]; omega
    refine run_driveS 80 ?_
    simp only [go_sem, v5, v5_0, v5_1, p0, p1, p2, p3, hl, hr, hlk, hrk, c1]
    refine run_cond_t (by rfl) ?_
    refine run_driveS 80 ?_
    simp only [go_sem, v5_2]
    refine run_ret_drop Tryd.func5 res5 [0, 1, 2] (.tup [.nils, .int .i64 2]) _ rfl (by simp) ?_ ?_ ?_ hQ
    · exact hfit_cons_none (hfit_cons_none (hfit_cons_none hfit_nil))
    · exact uniq_nodup (by decide)
    · simp only [go_sem, rr5, rens, ren, gmap]
theorem cut_k (n : Nat) (hn : n < 1152921504606846976) : ∃ K : Int, -100 < K ∧ K < 1152921504606846976 ∧ binI .quo .i64 (IntKind.i64.wrap (IntKind.i64.wrap ((n : Int).tdiv 32) - 13)) .i64 2 = some (.int .i64 K) ∧ (0 ≤ K → K ≤ 10 → ((n : Int) ≠ 32 * (13 + 2 * K)) ∨ ∃ k : Nat, k ≤ 10 ∧ K = k ∧ n = 32 * (13 + 2 * k)) := by
  have e1 : (n : Int).tdiv 32 = ((n / 32 : Nat) : Int) := by rw [Int.tdiv_eq_ediv_of_nonneg (by omega)]; omega
  have hq : n / 32 ≤ n := Nat.div_le_self ..
  have w1 : IntKind.i64.wrap ((n / 32 : Nat) : Int) = ((n / 32 : Nat) : Int) := wrap_i64 (by omega) (by omega)
  have w2 : IntKind.i64.wrap (((n / 32 : Nat) : Int) - 13) = ((n / 32 : Nat) : Int) - 13 := wrap_i64 (by omega) (by omega)
  rw [e1, w1, w2, b_quo_i _ _ (by decide)]
  obtain ⟨a, ha⟩ : ∃ a : Int, a = ((n / 32 : Nat) : Int) - 13 := ⟨_, rfl⟩
  rw [← ha]
  have h2 : (a.tdiv 2).natAbs = a.natAbs / 2 := Int.natAbs_tdiv a 2
  have hs : a < 0 → a.tdiv 2 ≤ 0 := fun h => by
    have := Int.neg_tdiv a 2
    have h3 : (-a).tdiv 2 = (-a) / 2 := Int.tdiv_eq_ediv_of_nonneg (by omega)
    omega
  have hp : 0 ≤ a → a.tdiv 2 = a / 2 := fun h => Int.tdiv_eq_ediv_of_nonneg h
  refine ⟨a.tdiv 2, ?_, ?_, ?_, ?_⟩
  · omega
  · omega
  · rw [wrap_i64 (by omega) (by omega)]
  · intro h0 h10
    by_cases e : (n : Int) = 32 * (13 + 2 * a.tdiv 2)
    · exact .inr ⟨(a.tdiv 2).toNat, by omega, by omega, by omega⟩
    · exact .inl e
theorem decode_bad (n : Nat) (bV : V) (hl : lenO bV = some n) (hbk : bV.known = true) (hn : n < 1152921504606846976) (hb : ∀ k : Nat, k ≤ 10 → n ≠ 32 * (13 + 2 * k)) {Q : V → Heap → Prop}
    (hQ : Q (.tup [.agg z54, .int .i64 2]) [none]) : VCall Tryd.prog G 7 [bV] [none] Q := by
  obtain ⟨K, k1, k2, k3, k4⟩ := cut_k n hn
  have q0 : binI .quo .i64 (n : Int) .i64 32 = some (.int .i64 (IntKind.i64.wrap ((n : Int).tdiv 32))) := b_quo_i _ _ (by decide)
  refine vcall_body Tryd.func7 nm7 code7 nt7 ?_
  by_cases h1 : K < 0
  · have c1 : (K < 0) = True := eq_true h1
    refine run_driveS 80 ?_
    simp only [go_sem, v7, v7_0, v7_1, v7_2, q0, hl, hbk, k3, c1]
    refine run_cond_t (by rfl) ?_
    refine run_driveS 80 ?_
    simp only [go_sem, v7_3]
    refine run_ret_drop Tryd.func7 res7 [0] (.tup [.agg z54, .int .i64 2]) _ rfl (by simp) ?_ ?_ ?_ hQ
    · exact hfit_cons_none hfit_nil
    · exact uniq_nodup (by decide)
    · simp only [go_sem, rr7, rens, ren, gmap, hz54]
      rfl
  · have c1 : (K < 0) = False := eq_false h1
    by_cases h2 : 10 < K
    · have c2 : (10 < K) = True := eq_true h2
      refine run_driveS 80 ?_
      simp only [go_sem, v7, v7_0, v7_1, v7_2, q0, hl, hbk, k3, c1, c2]
      refine run_cond_t (by rfl) ?_
      refine run_driveS 80 ?_
      simp only [go_sem, v7_3]
      refine run_ret_drop Tryd.func7 res7 [0] (.tup [.agg z54, .int .i64 2]) _ rfl (by simp) ?_ ?_ ?_ hQ
      · exact hfit_cons_none hfit_nil
      · exact uniq_nodup (by decide)
      · simp only [go_sem, rr7, rens, ren, gmap, hz54]
        rfl
    · have c2 : (10 < K) = False := eq_false h2
      have w1 : IntKind.i64.wrap (2 * K) = 2 * K := wrap_i64 (by omega) (by omega)
      have w2 : IntKind.i64.wrap (13 + 2 * K) = 13 + 2 * K := wrap_i64 (by omega) (by omega)
      have w3 : IntKind.i64.wrap (32 * (13 + 2 * K)) = 32 * (13 + 2 * K) := wrap_i64 (by omega) (by omega)
      have c3 : ((n : Int) == 32 * (13 + 2 * K)) = false := by
        rw [beq_eq_false_iff_ne]
        rcases k4 (by omega) (by omega) with h | ⟨k, h3, h4, h5⟩
        · exact h
        · exact absurd h5 (hb k h3)
      refine run_driveS 80 ?_
      simp only [go_sem, v7, v7_0, v7_1, v7_2, q0, hl, hbk, k3, c1, c2, w1, w2, w3, c3]
      refine run_cond_t (by rfl) ?_
      refine run_driveS 80 ?_
      simp only [go_sem, v7_3]
      refine run_ret_drop Tryd.func7 res7 [0] (.tup [.agg z54, .int .i64 2]) _ rfl (by simp) ?_ ?_ ?_ hQ
      · exact hfit_cons_none hfit_nil
      · exact uniq_nodup (by decide)
      · simp only [go_sem, rr7, rens, ren, gmap, hz54]
        rfl
def pk (f : Nat → Nat) (n i : Nat) : Nat := if i < n then f i else 1
theorem pk_lt {f : Nat → Nat} (hf : ∀ j, f j < 115792089237316195423570985008687907853269984665640564039457584007913129639936) (n i : Nat) : pk f n i < 115792089237316195423570985008687907853269984665640564039457584007913129639936 := by
  unfold pk
  split
  · exact hf i
  · decide
theorem pick_ (f : Nat → Nat) (n m : Nat) (z : Bool) (hok : Ok n m z) (i : Nat) {Q : V → Heap → Prop} (hQ : Q (lw (pk f n i)) [ivb f n z]) : VCall Tryd.prog G 11 [ivl 0 n m z, .int .i64 (i : Int)] [ivb f n z] Q := by
  refine vcall_body Tryd.func11 nm11 code11 nt11 ?_
  by_cases hi : i < n
  · have hz : z = false := by
      cases z
      · rfl
      · have := hok.2 rfl; omega
    subst hz
    have c1 : ((i : Int) < (n : Int)) = True := eq_true (by omega)
    have hg := scs_get' n f hi
    have e0 : pk f n i = f i := if_pos hi
    rw [show ivl 0 n m false = .sl 0 0 n (.exact m) from rfl, show ivb f n false = some ⟨.ro, scs n f⟩ from rfl] at *
    rw [e0] at hQ
    refine run_driveS 80 ?_
    simp only [go_sem, v11, v11_0, v11_1, c1]
    refine run_cond_t (by rfl) ?_
    refine run_driveS 80 ?_
    simp only [go_sem, v11_2, c1, hg]
    refine run_ret_drop Tryd.func11 res11 [0] (lw (f i)) _ rfl (by simp) ?_ ?_ ?_ hQ
    · exact hfit_cons rfl (bfit_g (scs_rens ..)) hfit_nil
    · exact uniq_nodup (by decide)
    · simp only [go_sem, rr11, lw_plain]
  · have c1 : ((i : Int) < (n : Int)) = False := eq_false (by omega)
    have e0 : pk f n i = 1 := if_neg hi
    have hl : lenO (ivl 0 n m z) = some n := by
      cases z
      · rfl
      · obtain rfl := hok.2 rfl; rfl
    have hk := ivl_known 0 n m z
    have hb : ∀ f', bfit f' (ivb f n z) (ivb f n z) := fun f' => by
      cases z
      · exact bfit_g (scs_rens ..)
      · trivial
    rw [e0] at hQ
    refine run_driveS 80 ?_
    simp only [go_sem, v11, v11_0, v11_1, hl, hk, c1]
    refine run_cond_f (by rfl) ?_
    refine run_driveS 80 ?_
    simp only [go_sem, v11_3]
    refine run_call' rfl ?_
    simp only [go_sem, calV]
    refine int' 1 (by decide) ?_
    refine run_driveS 80 ?_
    simp only [go_sem]
    refine run_ret_drop Tryd.func11 res11 [0] (lw 1) _ rfl (by simp) ?_ ?_ ?_ hQ
    · exact hfit_cons rfl (hb _) hfit_nil
    · exact uniq_nodup (by decide)
    · simp only [go_sem, rr11, lw_plain]
theorem pick_at (f : Nat → Nat) (n m : Nat) (z : Bool) (hok : Ok n m z) (p i : Nat) {x : Int} (hx : x = (i : Int)) {h : Heap} (hp : h[p]? = some (ivb f n z)) {R : V → Heap → Prop} (hR : R (lw (pk f n i)) h) : VCall Tryd.prog G 11 [ivl p n m z, .int .i64 x] h R := by
  subst hx
  refine vcall_at (pick_ f n m z hok i (Q := fun v k => v = lw (pk f n i) ∧ k = [ivb f n z]) ⟨rfl, rfl⟩) [p] ?_ (hfit_one hp) ?_ ?_ ?_
  · intro i hi
    obtain rfl : i = p := by simpa using hi
    exact (List.getElem?_eq_some_iff.1 hp).1
  · exact uniq_nodup (by simp)
  · simp only [rens, ivl_ren, gmap, ren]
  · rintro v k ⟨rfl, rfl⟩
    rw [puts_ro (by simp [wrB_ivb]) rfl (by simp), lw_plain]
    simpa using hR
theorem own_at (f : Nat → Nat) (n m : Nat) (z : Bool) (hok : Ok n m z) (p i : Nat) {x : Int} (hx : x = (i : Int)) {h : Heap} (hp : h[p]? = some (ivb f n z)) {R : V → Heap → Prop} (hR : R (lw (pk f n i)) h) : VCall Tryd.prog G 10 [ivl p n m z, .int .i64 x] h R := by
  subst hx
  refine vcall_at (h' := [ivb f n z]) (args := [ivl 0 n m z, .int .i64 (i : Int)]) (Q := fun v k => v = lw (pk f n i) ∧ k = [ivb f n z]) ?_ [p] ?_ (hfit_one hp) ?_ ?_ ?_
  · have hk := ivl_known 0 n m z
    have hb : ∀ f', bfit f' (ivb f n z) (ivb f n z) := fun f' => by
      cases z
      · exact bfit_g (scs_rens ..)
      · trivial
    refine vcall_body Tryd.func10 nm10 code10 nt10 ?_
    refine run_driveS 80 ?_
    simp only [go_sem, v10, v10_0, v10_1, hk]
    refine run_call' rfl ?_
    simp only [go_sem, calV, hk]
    refine pick_at f n m z hok 0 i rfl (by rfl) ?_
    refine run_driveS 80 ?_
    simp only [go_sem]
    refine run_ret_drop Tryd.func10 res10 [0] (lw (pk f n i)) _ rfl (by simp) ?_ ?_ ?_ ⟨rfl, rfl⟩
    · exact hfit_cons rfl (hb _) hfit_nil
    · exact uniq_nodup (by decide)
    · simp only [go_sem, rr10, lw_plain]
  · intro i hi
    obtain rfl : i = p := by simpa using hi
    exact (List.getElem?_eq_some_iff.1 hp).1
  · exact uniq_nodup (by simp)
  · simp only [rens, ivl_ren, gmap, ren]
  · rintro v k ⟨rfl, rfl⟩
    rw [puts_ro (by simp [wrB_ivb]) rfl (by simp), lw_plain]
    simpa using hR
theorem its_at (f : Nat → Nat) (hf : ∀ j, f j < 115792089237316195423570985008687907853269984665640564039457584007913129639936) (n m : Nat) (z : Bool) (hok : Ok n m z) (p i : Nat) {x : Int} (hx : x = (i : Int)) {h : Heap} (hp : h[p]? = some (ivb f n z)) {R : V → Heap → Prop} (hR : R (ew (pk f n i % ell)) h) : VCall Tryd.prog G 12 [ivl p n m z, .int .i64 x] h R := by
  subst hx
  refine vcall_at (h' := [ivb f n z]) (args := [ivl 0 n m z, .int .i64 (i : Int)]) (Q := fun v k => v = ew (pk f n i % ell) ∧ k = [ivb f n z]) ?_ [p] ?_ (hfit_one hp) ?_ ?_ ?_
  · have hk := ivl_known 0 n m z
    have hb : ∀ f', bfit f' (ivb f n z) (ivb f n z) := fun f' => by
      cases z
      · exact bfit_g (scs_rens ..)
      · trivial
    refine vcall_body Tryd.func12 nm12 code12 nt12 ?_
    refine run_driveS 80 ?_
    simp only [go_sem, v12, v12_0, v12_1, hk]
    refine run_call' rfl ?_
    simp only [go_sem, calV, hk]
    refine pick_at f n m z hok 0 i rfl (by rfl) ?_
    refine run_driveS 80 ?_
    simp only [go_sem]
    refine run_call' rfl ?_
    simp only [go_sem, calV]
    refine num_ _ (pk_lt hf n i) ?_
    refine run_driveS 80 ?_
    simp only [go_sem]
    refine run_call' rfl ?_
    simp only [go_sem, calV]
    refine line_of _ ?_
    refine run_driveS 80 ?_
    simp only [go_sem]
    refine run_ret_drop Tryd.func12 res12 [0] (ew (pk f n i % ell)) _ rfl (by simp) ?_ ?_ ?_ ⟨rfl, rfl⟩
    · exact hfit_cons rfl (hb _) hfit_nil
    · exact uniq_nodup (by decide)
    · simp only [go_sem, rr12, ew_plain]
  · intro i hi
    obtain rfl : i = p := by simpa using hi
    exact (List.getElem?_eq_some_iff.1 hp).1
  · exact uniq_nodup (by simp)
  · simp only [rens, ivl_ren, gmap, ren]
  · rintro v k ⟨rfl, rfl⟩
    rw [puts_ro (by simp [wrB_ivb]) rfl (by simp), ew_plain]
    simpa using hR
end
section
attribute [local go_sem ↓] lc_len lc_take lc_drop lc_known lc_one lc_rens lc_cells lw_known lw_agg lw_asG scs_known scs_one scs_len
attribute [local go_sem ↓] brow_len brow_known brow_one brow_rens bw_known bw_agg bw_cells bw_asG
attribute [local go_sem ↓] ecs_len ecs_take ecs_drop ecs_known ecs_one ecs_rens ecs_fit ecs_cells ew_known ew_agg ew_asG ecs_kind ecs_k ecs_l ers_known ers_one ers_len ers_rens ers_fit
attribute [local go_sem] lt_nat lt_natl lt_lnat lt_ll bool_tf bool_ft
set_option maxRecDepth 100000
set_option maxHeartbeats 2000000
def lnv (uv : V) (i : Nat) : List V := [uv, .unk, .unk, .unk, dv 1 i, de 2 i, .int .i64 i] ++ List.replicate 25 .unk
theorem dv_zero (b : Nat) : dv b 0 = .nils := rfl
theorem de_zero (b : Nat) : de b 0 = .nils := rfl
theorem db_zero (f : Nat → Nat) : db f 0 = none := rfl
theorem ebg_zero (f : Nat → Nat) : ebg f 0 = none := rfl
theorem ln_loop (f : Nat → Nat) (hf : ∀ j, f j < 115792089237316195423570985008687907853269984665640564039457584007913129639936) (n m : Nat) (hn : n ≤ 1048576) {Q : V → Heap → Prop} {K : List TI}
    (hK : Run Tryd.prog G 14 1 Q (K, ⟨lnv (.sl 0 0 n (.exact m)) n, [some ⟨.ro, scs n f⟩, db f n, ebg (fun j => f j % ell) n]⟩)) : ∀ k i, i + k = n → Run Tryd.prog G 14 1 Q (.l v14_9 :: .b 0 :: K, ⟨lnv (.sl 0 0 n (.exact m)) i, [some ⟨.ro, scs n f⟩, db f i, ebg (fun j => f j % ell) i]⟩)
  | 0, i, h => by
    obtain rfl : i = n := by omega
    have h0 : ((i : Int) < (i : Int)) = False := eq_false (by omega)
    unfold lnv
    unfold lnv at hK
    by_cases hi : i = 0
    · subst hi
      rw [dv_zero, de_zero, db_zero, ebg_zero] at *
      refine run_loop_eq v14_9.eq_1 ?_
      refine run_driveS 80 ?_
      simp only [go_sem, v14_4, h0]
      refine run_exit rfl ?_
      refine run_tmps ?_ hK
      simp only [go_sem, forg, true_or, or_true]
    · have hi : 0 < i := by omega
      rw [dv_pos hi, db_pos hi, de_pos hi, ebg_pos hi] at *
      refine run_loop_eq v14_9.eq_1 ?_
      refine run_driveS 80 ?_
      simp only [go_sem, v14_4, h0]
      refine run_exit rfl ?_
      refine run_tmps ?_ hK
      simp only [go_sem, forg, true_or, or_true]
  | k + 1, i, h => by
    have ih := ln_loop f hf n m hn hK k (i + 1) (by omega)
    have h0 : ((i : Int) < (n : Int)) = True := eq_true (by omega)
    have hg := scs_get' n f (i := i) (by omega)
    have hw : IntKind.i64.wrap ((i : Int) + 1) = ((i + 1 : Nat) : Int) := by rw [wrap_i64 (by omega) (by omega)]; omega
    unfold lnv
    unfold lnv at ih
    rw [dv_pos (by omega), db_pos (by omega), de_pos (by omega), ebg_pos (by omega)] at ih
    by_cases hi : i = 0
    · subst hi
      have h0' : ((0 : Int) < (n : Int)) = True := eq_true (by omega)
      have hw0 : IntKind.i64.wrap 1 = 1 := by decide
      rw [Nat.zero_mul, List.drop_zero] at hg
      rw [dv_zero, de_zero, db_zero, ebg_zero]
      refine run_loop_eq v14_9.eq_1 ?_
      refine run_driveS 80 ?_
      simp only [go_sem, v14_4, v14_7, v14_5, v14_6, h0', hg]
      refine run_call' rfl ?_
      simp only [go_sem, calV]
      refine num_ _ (hf 0) ?_
      refine run_driveS 80 ?_
      simp only [go_sem]
      refine run_call' rfl ?_
      simp only [go_sem, calV]
      refine line_of _ ?_
      refine run_driveS 80 ?_
      simp only [go_sem, v14_8, hw0]
      refine run_rename [0, 4, 6] rfl (by simp) ?_ ?_ ?_ ih
      · exact hfit_cons rfl (bfit_g (scs_rens ..)) (hfit_cons rfl (bfit_g (c := scs (0 + 1) f) (scs_rens ..)) (hfit_cons rfl (bfit_g (c := ers (0 + 1) fun j => f j % ell) (ers_rens ..)) hfit_nil))
      · exact uniq_nodup (by decide)
      · simp only [go_sem, fit, ren, gmap, true_or, or_true]
    · have hi : 0 < i := by omega
      rw [dv_pos hi, db_pos hi, de_pos hi, ebg_pos hi]
      have a1 : ((i + 1) * 224 ≤ 140737488355328) = True := eq_true (by omega)
      have a2 : (i + 1 ≤ 9223372036854775807) = True := eq_true (by omega)
      have a1' : ((i + 1) * 32 ≤ 140737488355328) = True := eq_true (by omega)
      have a3 := ers_snoc i (fun j => f j % ell) (v := f i % ell) rfl
      have a4 := scs_snoc i f (v := f i) rfl
      refine run_loop_eq v14_9.eq_1 ?_
      refine run_driveS 80 ?_
      simp only [go_sem, v14_4, v14_7, v14_5, v14_6, h0, hg, a1', a2, a4]
      refine run_call' rfl ?_
      simp only [go_sem, calV]
      refine num_ _ (hf i) ?_
      refine run_driveS 80 ?_
      simp only [go_sem]
      refine run_call' rfl ?_
      simp only [go_sem, calV]
      refine line_of _ ?_
      refine run_driveS 80 ?_
      simp only [go_sem, v14_8, hw, a1, a2, a3]
      refine run_rename [0, 4, 6] rfl (by simp) ?_ ?_ ?_ ih
      · exact hfit_cons rfl (bfit_g (scs_rens ..)) (hfit_cons rfl (bfit_g (scs_rens ..)) (hfit_cons rfl (bfit_g (ers_rens ..)) hfit_nil))
      · exact uniq_nodup (by decide)
      · simp only [go_sem, fit, ren, gmap, true_or, or_true]
theorem db_fit (f : Nat → Nat) (n : Nat) (g : Nat → Nat) : bfit g (db f n) (db f n) := by
  unfold db
  split
  · trivial
  · exact bfit_g (scs_rens ..)
theorem ebg_fit (f : Nat → Nat) (n : Nat) (g : Nat → Nat) : bfit g (ebg f n) (ebg f n) := by
  unfold ebg
  split
  · trivial
  · exact bfit_g (ers_rens ..)
theorem ivb_fit (f : Nat → Nat) (n : Nat) (z : Bool) (g : Nat → Nat) : bfit g (ivb f n z) (ivb f n z) := by
  cases z
  · exact bfit_g (scs_rens ..)
  · trivial
theorem db_ren (f : Nat → Nat) (n : Nat) (g : Nat → Nat) : (db f n).map (renB g) = db f n := by
  unfold db
  split
  · rfl
  · simp only [Option.map_some, renB, scs_rens]
theorem lines_f (f : Nat → Nat) (hf : ∀ j, f j < 115792089237316195423570985008687907853269984665640564039457584007913129639936) (n m : Nat) (z : Bool) (hok : Ok n m z) (hn : n ≤ 1048576) {Q : V → Heap → Prop} (hQ : Q (.tup [dv 1 n, de 2 n]) [ivb f n z, db f n, ebg (fun j => f j % ell) n]) : VCall Tryd.prog G 14 [ivl 0 n m z] [ivb f n z] Q := by
  refine vcall_body Tryd.func14 nm14 code14 nt14 ?_
  cases z with
  | true =>
    obtain rfl := hok.2 rfl
    rw [show ivl 0 0 m true = .nils from rfl, show ivb f 0 true = none from rfl] at *
    refine run_driveS 80 ?_
    simp only [go_sem, v14, v14_0, v14_1, v14_2, v14_3, v14_10]
    refine run_loop_eq v14_9.eq_1 ?_
    refine run_driveS 80 ?_
    simp only [go_sem, v14_4]
    refine run_exit rfl ?_
    refine run_driveS 80 ?_
    simp only [go_sem, v14_11]
    rw [db_zero, ebg_zero] at hQ
    refine run_ret_drop Tryd.func14 res14 [0, 1, 2] (.tup [dv 1 0, de 2 0]) _ rfl (by simp) ?_ ?_ ?_ hQ
    · exact hfit_cons_none (hfit_cons_none (hfit_cons_none hfit_nil))
    · exact uniq_nodup (by decide)
    · simp only [go_sem, rr14, rens, ren, gmap, dv_zero, de_zero]
  | false =>
    rw [show ivl 0 n m false = .sl 0 0 n (.exact m) from rfl, show ivb f n false = some ⟨.ro, scs n f⟩ from rfl] at *
    refine run_driveS 80 ?_
    simp only [go_sem, v14, v14_0, v14_1, v14_2, v14_3, v14_10]
    refine run_rename [0, 1, 2] rfl (by simp) ?_ ?_ ?_ (ln_loop f hf n m hn (K := [.c (.seq (.reg v14_11) .ret)]) ?_ n 0 (by omega))
    · rw [db_zero, ebg_zero]
      exact hfit_cons rfl (bfit_g (scs_rens ..)) (hfit_cons_none (hfit_cons_none hfit_nil))
    · exact uniq_nodup (by decide)
    · unfold lnv
      rw [dv_zero, de_zero]
      simp only [go_sem, fit, ren, gmap, true_or, or_true]
    · unfold lnv
      have k1 := dv_known 1 n
      have k2 := de_known 2 n
      refine run_driveS 80 ?_
      simp only [go_sem, v14_11, k1, k2]
      refine run_ret_drop Tryd.func14 res14 [0, 1, 2] (.tup [dv 1 n, de 2 n]) _ rfl (by simp) ?_ ?_ ?_ hQ
      · exact hfit_cons rfl (bfit_g (scs_rens ..)) (hfit_cons rfl (db_fit ..) (hfit_cons rfl (ebg_fit ..) hfit_nil))
      · exact uniq_nodup (by decide)
      · simp only [go_sem, rr14, rens, ren, gmap, k1, k2, dv_ren, de_ren]
theorem lines_g (f : Nat → Nat) (hf : ∀ j, f j < 115792089237316195423570985008687907853269984665640564039457584007913129639936) (n m : Nat) (z : Bool) (hok : Ok n m z) (hn : n ≤ 1048576) (p : Nat) {h : Heap} (hp : h[p]? = some (ivb f n z)) {R : V → Heap → Prop} (hR : R (.tup [dv h.length n, de (h.length + 1) n]) (h ++ [db f n, ebg (fun j => f j % ell) n])) : VCall Tryd.prog G 14 [ivl p n m z] h R := by
  refine vcall_at (lines_f f hf n m z hok hn (Q := fun v k => v = .tup [dv 1 n, de 2 n] ∧ k = [ivb f n z, db f n, ebg (fun j => f j % ell) n]) ⟨rfl, rfl⟩) [p] ?_ (hfit_one hp) ?_ ?_ ?_
  · intro i hi
    obtain rfl : i = p := by simpa using hi
    exact (List.getElem?_eq_some_iff.1 hp).1
  · exact uniq_nodup (by simp)
  · simp only [rens, ivl_ren, gmap]
  · rintro v k ⟨rfl, rfl⟩
    rw [puts_ro (by simp [wrB_ivb]) rfl (by simp)]
    have e1 : gmap [p] h.length 1 = h.length := by rw [gmap_ge (by simp)]; simp
    have e2 : gmap [p] h.length 2 = h.length + 1 := by rw [gmap_ge (by simp)]; simp
    simp only [ren, rens, dv_ren, de_ren, e1, e2, List.length_cons, List.length_nil, Nat.zero_add, List.drop_succ_cons, List.drop_zero, List.map_cons, List.map_nil, db_ren, ebg_map]
    exact hR
theorem line_is_t (A K : Nat) (hA : A < 115792089237316195423570985008687907853269984665640564039457584007913129639936) (h : A % ell = K) {h0 : Heap} {R : V → Heap → Prop} (hQ : R (.bool true) h0) : VCall Tryd.prog G 18 [lw A, .agg (ecs K)] h0 R :=
  line_is A K hA (by subst h; exact Nat.lt_trans (Nat.mod_lt _ ell_pos) (by decide)) (by rw [decide_eq_true h]; exact hQ)
theorem line_is_0 {h0 : Heap} {R : V → Heap → Prop} (hQ : R (.bool true) h0) : VCall Tryd.prog G 18 [lw 0, .agg e0] h0 R := by
  refine vcall_plain (Q := fun v => v = .bool true) ?_ (fun g => by simp only [rens, lw_plain, ren, e0_rens]) (fun v g hv => by subst hv; rfl) (fun v hv => by subst hv; exact hQ)
  refine vcall_body Tryd.func18 nm18 code18 nt18 ?_
  have z1 : e0.take 1 = [.int .i64 0] := rfl
  have z2 : e0.length = 26 := rfl
  have z3 : e0.drop 26 = [] := rfl
  have z4 : e0.all V.known = true := rfl
  have z5 : e0.all V.one = true := rfl
  refine run_driveS 80 ?_
  simp only [go_sem, v18, v18_0, v18_1, z1, z2, z3, z4, z5]
  refine run_cond_t (by rfl) ?_
  refine run_driveS 80 ?_
  simp only [go_sem, v18_2, z1, z2, z3, z4, z5]
  refine run_call' rfl ?_
  simp only [go_sem, calV]
  refine neutral ?_
  refine run_driveS 80 ?_
  simp only [go_sem, z1, z2, z3, z4, z5]
  refine run_drw (by kernel_rfl) ?_
  refine drun_drive 40 (p := (_, _)) ?_
  simp only [go_sem, v18_3, restore, Option.join_some, maskH, List.mapIdx_cons, List.mapIdx_nil, List.contains_cons, List.contains_nil, Bool.or_false, Bool.or_true, Bool.false_or, Bool.true_or, Nat.reduceBEq]
  refine drun_call' ?_
  simp only [go_sem, calV, restore, Option.join_some, maskH, List.mapIdx_cons, List.mapIdx_nil, List.contains_cons, List.contains_nil, Bool.or_false, Bool.or_true, Bool.false_or, Bool.true_or, Nat.reduceBEq]
  refine of_line _ (by decide) ?_
  refine drun_drive 40 (p := (_, _)) ?_
  simp only [go_sem, restore, Option.join_some, maskH, List.mapIdx_cons, List.mapIdx_nil, List.contains_cons, List.contains_nil, Bool.or_false, Bool.or_true, Bool.false_or, Bool.true_or, Nat.reduceBEq]
  refine drun_call' ?_
  simp only [go_sem, calV, restore, Option.join_some, maskH, List.mapIdx_cons, List.mapIdx_nil, List.contains_cons, List.contains_nil, Bool.or_false, Bool.or_true, Bool.false_or, Bool.true_or, Nat.reduceBEq]
  refine e_same _ _ (by decide) (by decide) ?_
  refine drun_drive 40 (p := (_, _)) ?_
  simp only [go_sem, restore, Option.join_some, maskH, List.mapIdx_cons, List.mapIdx_nil, List.contains_cons, List.contains_nil, Bool.or_false, Bool.or_true, Bool.false_or, Bool.true_or, Nat.reduceBEq]
  refine drun_end ?_
  refine run_ret_drop Tryd.func18 res18 [] (.bool true) [] rfl (by simp) trivial (by simp [uniq]) ?_ ⟨rfl, rfl⟩
  simp only [go_sem, rr18, ren, Nat.zero_mod]
end
section
attribute [local go_sem ↓] lc_len lc_take lc_drop lc_known lc_one lc_rens lc_cells lw_known lw_agg lw_asG scs_known scs_one scs_len
attribute [local go_sem ↓] ecs_len ecs_take ecs_drop ecs_known ecs_one ecs_rens ecs_fit ecs_cells ew_known ew_agg ew_asG ecs_kind ecs_k ecs_l ers_known ers_one ers_len ers_rens ers_fit
attribute [local go_sem] lt_nat lt_natl lt_lnat lt_ll bool_tf bool_ft
set_option maxRecDepth 100000
set_option maxHeartbeats 2000000
def LIs (h : Heap) (l : V) (k : Nat) (cs : List V) : Prop := (k = 0 ∧ l = .nils) ∨ ∃ p c kd, l = .sl p 0 k c ∧ Kind.m kd = true ∧ h[p]? = some (some ⟨kd, cs⟩)
theorem LIs.app {h : Heap} {l : V} {k : Nat} {cs : List V} (x : LIs h l k cs) (X : Heap) : LIs (h ++ X) l k cs := by
  rcases x with x | ⟨p, c, kd, e1, e2, e3⟩
  · exact .inl x
  · refine .inr ⟨p, c, kd, e1, e2, ?_⟩
    rw [List.getElem?_append_left (List.getElem?_eq_some_iff.1 e3).1]
    exact e3
theorem LIs.len {h : Heap} {l : V} {k : Nat} {cs : List V} (x : LIs h l k cs) : lenO l = some k := by
  rcases x with ⟨rfl, rfl⟩ | ⟨p, c, kd, rfl, e2, e3⟩ <;> rfl
theorem LIs.known {h : Heap} {l : V} {k : Nat} {cs : List V} (x : LIs h l k cs) : l.known = true := by
  rcases x with ⟨rfl, rfl⟩ | ⟨p, c, kd, rfl, e2, e3⟩ <;> rfl
def smv (l r : V) (i : Nat) : List V := [l, r, .unk, .unk, .unk, .int .i64 i] ++ List.replicate 21 .unk
theorem sm_loop (lv rv : Nat → Nat) (k : Nat) (hlv : ∀ j, lv j < 115792089237316195423570985008687907853269984665640564039457584007913129639936) (heq : ∀ j, j < k → lv j % ell = rv j) (hk : k ≤ 1048576) (h : Heap) (p q : Nat) (c1 c2 : Cap) (kd1 kd2 : Kind) (m1 : kd1.m = true) (m2 : kd2.m = true) (hp : h[p]? = some (some ⟨kd1, scs k lv⟩)) (hq : h[q]? = some (some ⟨kd2, ers k rv⟩)) {n : Nat} {Q : V → Heap → Prop} {K : List TI}
    (hK : Run Tryd.prog G 20 n Q (K, ⟨smv (.sl p 0 k c1) (.sl q 0 k c2) k, h⟩)) : ∀ m i, i + m = k → Run Tryd.prog G 20 n Q (.l v20_9 :: .b 0 :: K, ⟨smv (.sl p 0 k c1) (.sl q 0 k c2) i, h⟩)
  | 0, i, e => by
    obtain rfl : i = k := by omega
    have h0 : ((i : Int) < (i : Int)) = False := eq_false (by omega)
    unfold smv
    unfold smv at hK
    refine run_loop_eq v20_9.eq_1 ?_
    refine run_driveS 80 ?_
    simp only [go_sem, v20_4, h0]
    refine run_exit rfl ?_
    refine run_tmps ?_ hK
    simp only [go_sem, forg, true_or, or_true]
  | m + 1, i, e => by
    have ih := sm_loop lv rv k hlv heq hk h p q c1 c2 kd1 kd2 m1 m2 hp hq hK m (i + 1) (by omega)
    have hi : i < k := by omega
    have h0 : ((i : Int) < (k : Int)) = True := eq_true (by omega)
    have g1 := scs_get' k lv hi
    have g2 := ers_get k rv hi
    have g3 := heq i hi
    have hw : IntKind.i64.wrap ((i : Int) + 1) = ((i + 1 : Nat) : Int) := by rw [wrap_i64 (by omega) (by omega)]; omega
    unfold smv
    unfold smv at ih
    have m1' := m1
    have m2' := m2
    unfold Kind.m at m1' m2'
    refine run_loop_eq v20_9.eq_1 ?_
    refine run_driveS 80 ?_
    simp only [go_sem, v20_4, v20_7, h0]
    refine run_drw (by kernel_rfl) ?_
    refine drun_drive 40 (p := (_, _)) ?_
    simp only [go_sem, v20_5, h0, hp, hq, m1', m2', g1, g2]
    refine drun_call' ?_
    simp only [go_sem, calV]
    refine line_is_t _ _ (hlv i) g3 ?_
    refine drun_drive 40 (p := (_, _)) ?_
    simp only [go_sem]
    refine drun_end ?_
    refine run_cond_f (by rfl) ?_
    refine run_driveS 80 ?_
    simp only [go_sem, v20_8, hw]
    refine run_tmps ?_ ih
    simp only [go_sem, forg, true_or, or_true]
theorem same_lines (lv rv : Nat → Nat) (k : Nat) (hlv : ∀ j, lv j < 115792089237316195423570985008687907853269984665640564039457584007913129639936) (heq : ∀ j, j < k → lv j % ell = rv j) (hk : k ≤ 1048576) {h : Heap} {l r : V} (hl : LIs h l k (scs k lv)) (hr : LIs h r k (ers k rv)) {R : V → Heap → Prop} (hR : R (.bool true) h) : VCall Tryd.prog G 20 [l, r] h R := by
  have l1 := hl.len
  have l2 := hr.len
  have k1 := hl.known
  have k2 := hr.known
  refine vcall_body Tryd.func20 nm20 code20 nt20 ?_
  refine run_driveS 80 ?_
  simp only [go_sem, v20, v20_0, v20_1, l1, l2, k1, k2]
  refine run_cond_f (by rfl) ?_
  refine run_driveS 80 ?_
  simp only [go_sem, v20_3, v20_10]
  by_cases hk0 : k = 0
  · subst hk0
    have h0 : ((0 : Int) < ((0 : Nat) : Int)) = False := eq_false (by decide)
    refine run_loop_eq v20_9.eq_1 ?_
    refine run_driveS 80 ?_
    simp only [go_sem, v20_4, l1, k1, h0]
    refine run_exit rfl ?_
    refine run_driveS 80 ?_
    simp only [go_sem, v20_11]
    refine run_ret Tryd.func20 res20 (l := [.bool true]) ?_ hR
    simp only [go_sem, rr20]
  · rcases hl with ⟨e, _⟩ | ⟨p, c1, kd1, rfl, m1, hp⟩
    · exact absurd e hk0
    rcases hr with ⟨e, _⟩ | ⟨q, c2, kd2, rfl, m2, hq⟩
    · exact absurd e hk0
    refine run_tmps (l := smv (.sl p 0 k c1) (.sl q 0 k c2) 0) (by simp only [go_sem, smv, forg, true_or, or_true]) (sm_loop lv rv k hlv heq hk h p q c1 c2 kd1 kd2 m1 m2 hp hq (K := [.c (.seq (.reg v20_11) .ret)]) ?_ k 0 (by omega))
    unfold smv
    refine run_driveS 80 ?_
    simp only [go_sem, v20_11]
    refine run_ret Tryd.func20 res20 (l := [.bool true]) ?_ hR
    simp only [go_sem, rr20]
def gq (g : Nat → List V) (t : Nat → Nat) (l r : V) : List V := g 0 ++ (g 1 ++ (g 2 ++ (g 3 ++ (g 4 ++ (g 5 ++ (g 6 ++ (g 7 ++ (scs 3 t ++ (l :: r :: scs 2 fun j => t (3 + j))))))))))
section
variable {g : Nat → List V} (t : Nat → Nat) (l r : V) (hg : ∀ j, (g j).length = 26)
include hg
theorem gq_len : (gq g t l r).length = 230 := by simp only [gq, List.length_append, List.length_cons, hg, scs_len]
theorem gq0 : (gq g t l r).take 26 = g 0 := List.take_left' (hg 0)
theorem gdr (j : Nat) (n : Nat) (b : List V) : (g j ++ b).drop (n + 26) = b.drop n := by rw [Nat.add_comm, ← List.drop_drop, List.drop_left' (hg j)]
theorem gq1 : ((gq g t l r).drop 26).take 26 = g 1 := by
  show List.take 26 (List.drop (0 + 26) _) = _
  unfold gq
  rw [gdr hg]; exact List.take_left' (hg 1)
theorem gq2 : ((gq g t l r).drop 52).take 26 = g 2 := by
  show List.take 26 (List.drop (0 + 26 + 26) _) = _
  unfold gq
  rw [gdr hg, gdr hg]; exact List.take_left' (hg 2)
theorem gq3 : ((gq g t l r).drop 78).take 26 = g 3 := by
  show List.take 26 (List.drop (0 + 26 + 26 + 26) _) = _
  unfold gq
  rw [gdr hg, gdr hg, gdr hg]; exact List.take_left' (hg 3)
theorem gq4 : ((gq g t l r).drop 104).take 26 = g 4 := by
  show List.take 26 (List.drop (0 + 26 + 26 + 26 + 26) _) = _
  unfold gq
  rw [gdr hg, gdr hg, gdr hg, gdr hg]; exact List.take_left' (hg 4)
theorem gq5 : ((gq g t l r).drop 130).take 26 = g 5 := by
  show List.take 26 (List.drop (0 + 26 + 26 + 26 + 26 + 26) _) = _
  unfold gq
  rw [gdr hg, gdr hg, gdr hg, gdr hg, gdr hg]; exact List.take_left' (hg 5)
theorem gq6 : ((gq g t l r).drop 156).take 26 = g 6 := by
  show List.take 26 (List.drop (0 + 26 + 26 + 26 + 26 + 26 + 26) _) = _
  unfold gq
  rw [gdr hg, gdr hg, gdr hg, gdr hg, gdr hg, gdr hg]; exact List.take_left' (hg 6)
theorem gq7 : ((gq g t l r).drop 182).take 26 = g 7 := by
  show List.take 26 (List.drop (0 + 26 + 26 + 26 + 26 + 26 + 26 + 26) _) = _
  unfold gq
  rw [gdr hg, gdr hg, gdr hg, gdr hg, gdr hg, gdr hg, gdr hg]; exact List.take_left' (hg 7)
theorem gqd (n : Nat) : (gq g t l r).drop (n + 208) = (scs 3 t ++ (l :: r :: scs 2 fun j => t (3 + j))).drop n := by
  show List.drop (n + 26 + 26 + 26 + 26 + 26 + 26 + 26 + 26) _ = _
  unfold gq
  rw [gdr hg, gdr hg, gdr hg, gdr hg, gdr hg, gdr hg, gdr hg, gdr hg]
theorem gqk0 : ((gq g t l r).drop 208).take 4 = lc (t 0) := by rw [gqd t l r hg 0]; rfl
theorem gqk1 : ((gq g t l r).drop 212).take 4 = lc (t 1) := by rw [gqd t l r hg 4]; rfl
theorem gqk2 : ((gq g t l r).drop 216).take 4 = lc (t 2) := by rw [gqd t l r hg 8]; rfl
theorem gql : ((gq g t l r).drop 220).take 1 = [l] := by rw [gqd t l r hg 12]; rfl
theorem gqr : ((gq g t l r).drop 221).take 1 = [r] := by rw [gqd t l r hg 13]; rfl
theorem gqk3 : ((gq g t l r).drop 222).take 4 = lc (t 3) := by rw [gqd t l r hg 14]; rfl
theorem gqk4 : ((gq g t l r).drop 226).take 4 = lc (t 4) := by rw [gqd t l r hg 18]; rfl
end
theorem gq_known {g : Nat → List V} (t : Nat → Nat) {l r : V} (hg : ∀ j, (g j).all V.known = true) (hl : l.known = true) (hr : r.known = true) : (gq g t l r).all V.known = true := by
  simp only [gq, List.all_append, List.all_cons, hg, hl, hr, scs_known, Bool.and_self]
theorem num_is_t (A B : Nat) (hA : A < 115792089237316195423570985008687907853269984665640564039457584007913129639936) (h : A = B) {h0 : Heap} {R : V → Heap → Prop} (hQ : R (.bool true) h0) : VCall Tryd.prog G 19 [lw A, lw B] h0 R :=
  num_is A B hA (h ▸ hA) (by rw [decide_eq_true h]; exact hQ)
theorem pc4 (v : Nat → Nat) (l r : V) : (pc v l r).take 4 = lc (v 0) := rfl
theorem same_proof (v lv rv : Nat → Nat) (g : Nat → List V) (t : Nat → Nat) (l r l' r' : V) (k : Nat) (lv' rv' : Nat → Nat) (hv : ∀ j, v j < 115792089237316195423570985008687907853269984665640564039457584007913129639936) (hlv : ∀ j, lv j < 115792089237316195423570985008687907853269984665640564039457584007913129639936) (hrv : ∀ j, rv j < 115792089237316195423570985008687907853269984665640564039457584007913129639936) (hk : k ≤ 1048576)
    (hg : ∀ j, (g j).length = 26) (hgk : ∀ j, (g j).all V.known = true) (hge : ∀ j, j < 8 → ∀ {h : Heap} {R : V → Heap → Prop}, R (.bool true) h → VCall Tryd.prog G 18 [lw (v j), .agg (g j)] h R) (hte : ∀ j, j < 5 → v (8 + j) = t j)
    (hle : ∀ j, j < k → lv j % ell = lv' j) (hre : ∀ j, j < k → rv j % ell = rv' j) {h : Heap} (hl : LIs h l k (scs k lv)) (hr : LIs h r k (scs k rv)) (hl' : LIs h l' k (ers k lv')) (hr' : LIs h r' k (ers k rv')) {R : V → Heap → Prop}
    (hR : R (.bool true) (h ++ [some ⟨.rw, pc v l r⟩, some ⟨.rw, gq g t l' r'⟩])) : VCall Tryd.prog G 8 [.agg (pc v l r), .agg (gq g t l' r')] h R := by
  have p0 := pc_known v l r hl.known hr.known
  have p1 := pc_l v l r
  have p2 := pc_r v l r
  have p3 := pc_len v l r
  have p4 := pc4 v l r
  have d1 : ((pc v l r).drop 4).take 4 = lc (v 1) := rfl
  have d2 : ((pc v l r).drop 8).take 4 = lc (v 2) := rfl
  have d3 : ((pc v l r).drop 12).take 4 = lc (v 3) := rfl
  have d4 : ((pc v l r).drop 16).take 4 = lc (v 4) := rfl
  have d5 : ((pc v l r).drop 20).take 4 = lc (v 5) := rfl
  have d6 : ((pc v l r).drop 24).take 4 = lc (v 6) := rfl
  have d7 : ((pc v l r).drop 28).take 4 = lc (v 7) := rfl
  have d8 : ((pc v l r).drop 32).take 4 = lc (v 8) := rfl
  have d9 : ((pc v l r).drop 36).take 4 = lc (v 9) := rfl
  have da : ((pc v l r).drop 40).take 4 = lc (v 10) := rfl
  have db := pc_e0 v l r
  have dc := pc_e1 v l r
  have q0 := gq_known t hgk hl'.known hr'.known
  have q1 := gq_len t l' r' hg
  have f0 := gq0 t l' r' hg
  have f1 := gq1 t l' r' hg
  have f2 := gq2 t l' r' hg
  have f3 := gq3 t l' r' hg
  have f4 := gq4 t l' r' hg
  have f5 := gq5 t l' r' hg
  have f6 := gq6 t l' r' hg
  have f7 := gq7 t l' r' hg
  have f8 := gqk0 t l' r' hg
  have f9 := gqk1 t l' r' hg
  have fa := gqk2 t l' r' hg
  have fb := gqk3 t l' r' hg
  have fc := gqk4 t l' r' hg
  have fl := gql t l' r' hg
  have fr := gqr t l' r' hg
  have g0 := hg 0
  have g1 := hg 1
  have g2 := hg 2
  have g3 := hg 3
  have g4 := hg 4
  have g5 := hg 5
  have g6 := hg 6
  have g7 := hg 7
  have e0 := hgk 0
  have e1 := hgk 1
  have e2 := hgk 2
  have e3 := hgk 3
  have e4 := hgk 4
  have e5 := hgk 5
  have e6 := hgk 6
  have e7 := hgk 7
  have x0 : (h ++ [some ⟨.rw, pc v l r⟩] ++ [some ⟨.rw, gq g t l' r'⟩])[h.length]? = some (some (⟨.rw, pc v l r⟩ : Blk)) := by simp
  have x1 : (h ++ [some ⟨.rw, pc v l r⟩] ++ [some ⟨.rw, gq g t l' r'⟩])[h.length + 1]? = some (some (⟨.rw, gq g t l' r'⟩ : Blk)) := by simp
  have kl := hl.known
  have kr := hr.known
  have kl' := hl'.known
  have kr' := hr'.known
  have y1 := (hl.app [some ⟨.rw, pc v l r⟩]).app [some ⟨.rw, gq g t l' r'⟩]
  have y2 := (hr.app [some ⟨.rw, pc v l r⟩]).app [some ⟨.rw, gq g t l' r'⟩]
  have y3 := (hl'.app [some ⟨.rw, pc v l r⟩]).app [some ⟨.rw, gq g t l' r'⟩]
  have y4 := (hr'.app [some ⟨.rw, pc v l r⟩]).app [some ⟨.rw, gq g t l' r'⟩]
  refine vcall_body Tryd.func8 nm8 code8 nt8 ?_
  refine run_driveS 80 ?_
  simp only [go_sem, v8, v8_0, p0, q0]
  refine run_driveS 80 ?_
  simp only [go_sem, v8_1, p0, p3, p4, q0, q1, x0, x1, f0, g0, e0]
  refine run_call' rfl ?_
  simp only [go_sem, calV]
  refine hge 0 (by decide) ?_
  refine run_driveS 80 ?_
  simp only [go_sem, x0, x1, p3, p0, q0, q1, d1, f1, g1, e1]
  refine run_call' rfl ?_
  simp only [go_sem, calV]
  refine hge 1 (by decide) ?_
  refine run_driveS 80 ?_
  simp only [go_sem, x0, x1, p3, p0, q0, q1, d2, f2, g2, e2]
  refine run_call' rfl ?_
  simp only [go_sem, calV]
  refine hge 2 (by decide) ?_
  refine run_driveS 80 ?_
  simp only [go_sem, x0, x1, p3, p0, q0, q1, d3, f3, g3, e3]
  refine run_call' rfl ?_
  simp only [go_sem, calV]
  refine hge 3 (by decide) ?_
  refine run_driveS 80 ?_
  simp only [go_sem, x0, x1, p3, p0, q0, q1, d4, f4, g4, e4]
  refine run_call' rfl ?_
  simp only [go_sem, calV]
  refine hge 4 (by decide) ?_
  refine run_driveS 80 ?_
  simp only [go_sem, x0, x1, p3, p0, q0, q1, d5, f5, g5, e5]
  refine run_call' rfl ?_
  simp only [go_sem, calV]
  refine hge 5 (by decide) ?_
  refine run_driveS 80 ?_
  simp only [go_sem, x0, x1, p3, p0, q0, q1, d6, f6, g6, e6]
  refine run_call' rfl ?_
  simp only [go_sem, calV]
  refine hge 6 (by decide) ?_
  refine run_driveS 80 ?_
  simp only [go_sem, x0, x1, p3, p0, q0, q1, d7, f7, g7, e7]
  refine run_call' rfl ?_
  simp only [go_sem, calV]
  refine hge 7 (by decide) ?_
  refine run_driveS 80 ?_
  simp only [go_sem]
  refine run_cond_f (by rfl) ?_
  refine run_driveS 80 ?_
  simp only [go_sem, v8_3, x0, x1, p3, p0, q0, q1, d8, f8]
  refine run_call' rfl ?_
  simp only [go_sem, calV]
  refine num_is_t _ _ (hv _) (hte 0 (by decide)) ?_
  refine run_driveS 80 ?_
  simp only [go_sem, x0, x1, p3, p0, q0, q1, d9, f9]
  refine run_call' rfl ?_
  simp only [go_sem, calV]
  refine num_is_t _ _ (hv _) (hte 1 (by decide)) ?_
  refine run_driveS 80 ?_
  simp only [go_sem, x0, x1, p3, p0, q0, q1, da, fa]
  refine run_call' rfl ?_
  simp only [go_sem, calV]
  refine num_is_t _ _ (hv _) (hte 2 (by decide)) ?_
  refine run_driveS 80 ?_
  simp only [go_sem, x0, x1, p3, p0, q0, q1, db, fb]
  refine run_call' rfl ?_
  simp only [go_sem, calV]
  refine num_is_t _ _ (hv _) (hte 3 (by decide)) ?_
  refine run_driveS 80 ?_
  simp only [go_sem, x0, x1, p3, p0, q0, q1, dc, fc]
  refine run_call' rfl ?_
  simp only [go_sem, calV]
  refine num_is_t _ _ (hv _) (hte 4 (by decide)) ?_
  refine run_driveS 80 ?_
  simp only [go_sem, x0, x1, p3, p0, q0, q1, p1, kl, fl, kl']
  refine run_call' rfl ?_
  simp only [go_sem, calV, kl, kl']
  refine same_lines lv lv' k hlv hle hk y1 y3 ?_
  refine run_driveS 80 ?_
  simp only [go_sem, x0, x1, p3, p0, q0, q1, p2, kr, fr, kr']
  refine run_call' rfl ?_
  simp only [go_sem, calV, kr, kr']
  refine same_lines rv rv' k hrv hre hk y2 y4 ?_
  refine run_driveS 80 ?_
  simp only [go_sem]
  refine run_ret Tryd.func8 res8 (l := [.bool true]) ?_ (by rw [List.append_assoc]; exact hR)
  simp only [go_sem, rr8]
end
end Go.Vs.Tryd
