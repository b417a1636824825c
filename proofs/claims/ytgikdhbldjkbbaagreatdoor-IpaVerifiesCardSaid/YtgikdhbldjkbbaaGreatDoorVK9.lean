/- Text 9 of 10 of this claim: a machine of plain values beside the model, what the functions of the program and of the reference answer over it, and last the row and its card. -/
import Derived.Test.YtgikdhbldjkbbaaGreatDoorVK8
import Derived.Test.YtgikdhbldjkbbaaGreatDoorVK4
set_option linter.unusedVariables false
set_option linter.unusedSimpArgs false
namespace Go.Vs.Tryz
open Go.Proofs
variable {G : Nat → List V}
set_option linter.unusedSimpArgs false
attribute [local go_sem] lenO_nils lenO_sl sliceAtV Int.sub_zero List.length_append List.all_append ge_iff_le gt_iff_lt Int.natCast_nonneg Int.toNat_natCast Nat.mul_one b_and_ll b_shr_ll b_mul_ll b_add_ll b_or_ll b_shl_ll pick_ll pick_lc pick_bb driveS stopV Option.isSome_some Option.isSome_none Kind.m Kind.w Kind.g look_ro look_rw look_grow drive stepV exo expo evs fillV isNil nilKind eqV eqL optA optM sliceAtV ev kn ldc stc splice appV srcV lenV setd wantV exitV rvs rv one List.length_cons List.length_nil List.cons_append List.nil_append List.append_nil List.replicate List.getD_cons_zero List.getD_cons_succ List.set_cons_zero List.set_cons_succ List.getElem?_cons_zero List.getElem?_cons_succ List.getElem?_nil List.take_succ_cons List.take_zero List.take_nil List.drop_succ_cons List.drop_zero List.drop_nil List.all_cons List.all_nil List.any_cons List.any_nil Bool.and_true Bool.true_and Bool.and_self Option.map_some Option.map_none Option.bind_some Option.some.injEq Nat.add_zero Nat.zero_add Int.toNat_zero Int.toNat_one Int.zero_add Int.add_zero if_true if_false ite_true ite_false and_true true_and and_self ne_eq not_false_eq_true not_true_eq_false decide_true decide_false Bool.false_eq_true Bool.not_true Bool.not_false beq_self_eq_true BEq.rfl Bool.not_eq_true Nat.le_refl Int.le_refl Nat.zero_le List.foldl List.map_cons List.map_nil Prod.mk.injEq Int.cast_ofNat_Int Int.zero_le_ofNat b_add_cc b_add_cl b_add_lc b_mul_cc b_mul_cl b_mul_lc b_sub_cc b_sub_cl b_sub_lc b_and_cc b_and_cl b_and_lc b_or_cc b_or_cl b_or_lc b_xor_cc b_xor_cl b_xor_lc b_andNot_cc b_andNot_cl b_andNot_lc b_shr_cc b_shr_cl b_shr_lc b_shl_cc b_shl_cl b_shl_lc b_lss b_leq b_gtr b_geq b_add_i b_sub_i b_mul_i beq_cc beq_cl beq_lc beq_ll b_quo_i b_rem_i neg_u64 wrap_i64 driveD stepD idsAt idOf maskH_nil restore_nil restore_mask List.filterMap_nil List.filterMap_cons VOp.looks VOp.makes exA cells_agg cells_int cells_bool cells_str cells_nilp cells_ptr cells_glob cells_nils cells_sl cells_nilf cells_fn cells_nili cells_ifc known_agg known_tup known_int known_bool known_str known_nilp known_ptr known_glob known_nils known_sl known_nilf known_fn known_nili known_ifc known_unk one_agg one_tup one_int one_bool one_str one_nilp one_ptr one_glob one_nils one_sl one_nilf one_fn one_nili one_ifc asK_int asN_int asB_bool asS_str asG_agg asT_tup true_or or_true false_or or_false
attribute [local go_sem_proc] Nat.reduceAdd Nat.reduceSub Nat.reduceLeDiff Nat.reduceMul Nat.reduceLT Nat.reduceEqDiff Int.reduceLT Int.reduceLE Int.reduceAdd Int.reduceSub Int.reduceMul Int.reduceToNat reduceIte reduceCtorEq Nat.reduceBEq
section
attribute [local go_sem ↓] lc_len lc_take lc_drop lc_known lc_one lc_rens lc_cells lw_known lw_agg lw_asG scs_known scs_one scs_len lc_take_add lc_drop_add lenO_dv dv_known dv_one dv_ren
attribute [local go_sem] lt_nat lt_natl lt_lnat lt_ll bool_tf bool_ft
set_option maxRecDepth 100000
set_option maxHeartbeats 2000000
noncomputable def Gs (us g : Nat → Nat) (N : Nat) : Nat → Nat → Nat
  | 0 => g
  | t + 1 => fe (linv (us t)) (us t) (2 ^ (N - (t + 1))) (Gs us g N t)
noncomputable def Hs (us h : Nat → Nat) (N : Nat) : Nat → Nat → Nat
  | 0 => h
  | t + 1 => fe (us t) (linv (us t)) (2 ^ (N - (t + 1))) (Hs us h N t)
noncomputable def Ps (us L R : Nat → Nat) (P : Nat) : Nat → Nat
  | 0 => P
  | t + 1 => pf1 (Ps us L R P t) (L t) (R t) (us t)
theorem Gs_lt {us g : Nat → Nat} {N : Nat} (h : ∀ j, g j < 115792089237316195423570985008687907853269984665640564039457584007913129639936) : ∀ t j, Gs us g N t j < 115792089237316195423570985008687907853269984665640564039457584007913129639936
  | 0, j => h j
  | _ + 1, _ => Nat.lt_trans (fe_lt ..) ell_lt
theorem Hs_lt {us g : Nat → Nat} {N : Nat} (h : ∀ j, g j < 115792089237316195423570985008687907853269984665640564039457584007913129639936) : ∀ t j, Hs us g N t j < 115792089237316195423570985008687907853269984665640564039457584007913129639936
  | 0, j => h j
  | _ + 1, _ => Nat.lt_trans (fe_lt ..) ell_lt
theorem Ps_lt {us L R : Nat → Nat} {P : Nat} (h : P < 115792089237316195423570985008687907853269984665640564039457584007913129639936) : ∀ t, Ps us L R P t < 115792089237316195423570985008687907853269984665640564039457584007913129639936
  | 0 => h
  | _ + 1 => Nat.lt_trans (pf1_lt ..) ell_lt
def CapOk (c : Cap) (n : Nat) : Prop := c = .grow 4 ∨ ∃ k, c = .exact k ∧ n ≤ k
theorem bfit_rob {g f : Nat → Nat} {n : Nat} : bfit g (rob f n) (rob f n) := by
  rcases rob_cases f n with e | e <;> rw [e]
  · trivial
  · exact bfit_same (scs_rens ..)
theorem scs_tk (n : Nat) (f : Nat → Nat) : (scs n f).take (n * 4) = scs n f := List.take_of_length_le (by rw [scs_len]; exact Nat.le_refl _)
theorem st_ap (P Q : Nat) (a b : V) : lc P ++ lc Q ++ [a] ++ [b] ++ [] = lc P ++ (lc Q ++ [a, b]) := rfl
theorem yld_known (i : Nat) : (V.yld i).known = true := rfl
attribute [local go_sem] yld_known
theorem bfit_st {f : Nat → Nat} {P Q i j n : Nat} {c d : Cap} (hi : f i = i) (hj : f j = j) : bfit f (some ⟨.rw, lc P ++ (lc Q ++ [.sl i 0 n c, .sl j 0 n d])⟩) (some ⟨.rw, lc P ++ (lc Q ++ [.sl i 0 n c, .sl j 0 n d])⟩) := ⟨.inl rfl, fit_same (by simp only [rens_append, lc_rens, rens, ren, hi, hj])⟩
theorem gmap_r14 {L j : Nat} (hj : j < 12) : gmap [0, 1, 2, 3, 4, 5, 6, 7, 8, 9, 10, 11, 18, 19] L j = j := by
  match j, hj with
  | 0, _ | 1, _ | 2, _ | 3, _ | 4, _ | 5, _ | 6, _ | 7, _ | 8, _ | 9, _ | 10, _ | 11, _ => rfl
theorem uniq_nodup {μ : List Nat} {h' : Heap} (hn : μ.Nodup) : uniq μ h' := by
  unfold uniq
  refine List.pairwise_iff_getElem.2 fun i j hi hj hij _ => ?_
  simp only [List.getElem_zip]
  exact List.pairwise_iff_getElem.1 hn i j _ _ hij
theorem bfit_or {f : Nat → Nat} {b c : Option Blk} {p : Prop} (h : b = c ∨ p) (hp : ¬ p) (hb : bfit f c c) : bfit f c b := by
  rcases h with h | h
  · rw [h]; exact hb
  · exact absurd h hp
theorem bfit_cast {f : Nat → Nat} {b b' : Option Blk} (e : b = b') (h : bfit f b b) : bfit f b b' := by rw [← e]; exact h
theorem bfit_st2 {f : Nat → Nat} {P Q i j i' j' n : Nat} {c d : Cap} (hi : f i = i') (hj : f j = j') : bfit f (some ⟨.rw, lc P ++ (lc Q ++ [.sl i 0 n c, .sl j 0 n d])⟩) (some ⟨.rw, lc P ++ (lc Q ++ [.sl i' 0 n c, .sl j' 0 n d])⟩) := by
  refine ⟨.inl rfl, ?_⟩
  have h := fit_rens f (lc P ++ (lc Q ++ [.sl i 0 n c, .sl j 0 n d]))
  simpa only [rens_append, lc_rens, rens, ren, hi, hj] using h
theorem gmap_r17 {L j : Nat} (hj : j < 12) : gmap [0, 1, 2, 3, 4, 5, 6, 7, 8, 9, 10, 11, 12, 20, 21, 18, 19] L j = j := by
  match j, hj with
  | 0, _ | 1, _ | 2, _ | 3, _ | 4, _ | 5, _ | 6, _ | 7, _ | 8, _ | 9, _ | 10, _ | 11, _ => rfl
theorem gmap_r12 {L j : Nat} (hj : j < 12) : gmap [0, 1, 2, 3, 4, 5, 6, 7, 8, 9, 10, 11] L j = j := by
  match j, hj with
  | 0, _ | 1, _ | 2, _ | 3, _ | 4, _ | 5, _ | 6, _ | 7, _ | 8, _ | 9, _ | 10, _ | 11, _ => rfl
theorem gmap_r17' {L j : Nat} (hj : j < 12) : gmap [0, 1, 2, 3, 4, 5, 6, 7, 8, 9, 10, 11, 12, 13, 14, 15, 16] L j = j := by
  match j, hj with
  | 0, _ | 1, _ | 2, _ | 3, _ | 4, _ | 5, _ | 6, _ | 7, _ | 8, _ | 9, _ | 10, _ | 11, _ => rfl
theorem trim20 {f : FuncId} {md : Md} {Q : V → Heap → Prop} {k : List TI} {tm : List V} {b0 b1 b2 b3 b4 b5 b6 b7 b8 b9 b10 b11 b12 b13 b14 b15 b16 b17 b18 b19 : Option Blk} {X : Heap} (hu : uniq [0, 1, 2, 3, 4, 5, 6, 7, 8, 9, 10, 11, 12, 13, 14, 15, 16, 17, 18, 19] [b0, b1, b2, b3, b4, b5, b6, b7, b8, b9, b10, b11, b12, b13, b14, b15, b16, b17, b18, b19])
    (h : RunM Tryz.prog G f 12 md Q (k, ⟨tm, [b0, b1, b2, b3, b4, b5, b6, b7, b8, b9, b10, b11, b12, b13, b14, b15, b16, b17, b18, b19]⟩))
    (hf : ∀ g : Nat → Nat, (∀ j, j < 20 → g j = j) → fit g tm tm ∧ bfit g b0 b0 ∧ bfit g b1 b1 ∧ bfit g b2 b2 ∧ bfit g b3 b3 ∧ bfit g b4 b4 ∧ bfit g b5 b5 ∧ bfit g b6 b6 ∧ bfit g b7 b7 ∧ bfit g b8 b8 ∧ bfit g b9 b9 ∧ bfit g b10 b10 ∧ bfit g b11 b11 ∧ bfit g b12 b12 ∧ bfit g b13 b13 ∧ bfit g b14 b14 ∧ bfit g b15 b15 ∧ bfit g b16 b16 ∧ bfit g b17 b17 ∧ bfit g b18 b18 ∧ bfit g b19 b19) :
    RunM Tryz.prog G f 12 md Q (k, ⟨tm, b0 :: b1 :: b2 :: b3 :: b4 :: b5 :: b6 :: b7 :: b8 :: b9 :: b10 :: b11 :: b12 :: b13 :: b14 :: b15 :: b16 :: b17 :: b18 :: b19 :: X⟩) := by
  obtain ⟨ht, f0, f1, f2, f3, f4, f5, f6, f7, f8, f9, f10, f11, f12, f13, f14, f15, f16, f17, f18, f19⟩ := hf (gmap [0, 1, 2, 3, 4, 5, 6, 7, 8, 9, 10, 11, 12, 13, 14, 15, 16, 17, 18, 19] (b0 :: b1 :: b2 :: b3 :: b4 :: b5 :: b6 :: b7 :: b8 :: b9 :: b10 :: b11 :: b12 :: b13 :: b14 :: b15 :: b16 :: b17 :: b18 :: b19 :: X).length) (fun j hj => gmap_lt (by
    have : ([0, 1, 2, 3, 4, 5, 6, 7, 8, 9, 10, 11, 12, 13, 14, 15, 16, 17, 18, 19] : List Nat) = List.range 20 := by decide
    rw [this, List.getElem?_range hj]))
  exact run_rename [0, 1, 2, 3, 4, 5, 6, 7, 8, 9, 10, 11, 12, 13, 14, 15, 16, 17, 18, 19] rfl (by simp) (hfit_cons rfl f0 (hfit_cons rfl f1 (hfit_cons rfl f2 (hfit_cons rfl f3 (hfit_cons rfl f4 (hfit_cons rfl f5 (hfit_cons rfl f6 (hfit_cons rfl f7 (hfit_cons rfl f8 (hfit_cons rfl f9 (hfit_cons rfl f10 (hfit_cons rfl f11 (hfit_cons rfl f12 (hfit_cons rfl f13 (hfit_cons rfl f14 (hfit_cons rfl f15 (hfit_cons rfl f16 (hfit_cons rfl f17 (hfit_cons rfl f18 (hfit_cons rfl f19 hfit_nil)))))))))))))))))))) hu ht h
theorem uniq20 {h' : Heap} (hl : h'.length = 20) : uniq [0, 1, 2, 3, 4, 5, 6, 7, 8, 9, 10, 11, 12, 13, 14, 15, 16, 17, 18, 19] h' := by
  have e : ([0, 1, 2, 3, 4, 5, 6, 7, 8, 9, 10, 11, 12, 13, 14, 15, 16, 17, 18, 19] : List Nat) = List.range 20 := by decide
  unfold uniq
  rw [e]
  refine List.pairwise_iff_getElem.2 fun i j hi hj hij _ => ?_
  simp only [List.getElem_zip, List.getElem_range]
  omega
theorem puts_keep' {g : Nat → Nat} : ∀ {h' h'' : Heap} {μ : List Nat} {h : Heap}, (∀ x ∈ h', wrB x = false) → h''.length = h'.length → μ.length = h'.length → puts g h' h'' μ h = h
  | [], [], μ, h, _, _, _ => by simp [puts]
  | b :: h', b1 :: h'', i :: μ, h, hw, hl, hm => by
    simp only [puts, hw b (by simp), Bool.false_eq_true, if_false]
    exact puts_keep' (fun x hx => hw x (by simp [hx])) (by simpa using hl) (by simpa using hm)
theorem puts_keep {g : Nat → Nat} {h' h'' : Heap} {μ : List Nat} {h : Heap} (hw : ∀ x ∈ h', wrB x = false) (hl : h''.length = h'.length) (hm : μ.length = h'.length := by rfl) : puts g h' h'' μ h = h := puts_keep' hw hl hm
section
variable (us g h Lf Rf : Nat → Nat) (N P Q' a b : Nat) (r : Loop) (tm : List V) (A : Nat → Nat → Nat → Option Blk) (B C Z W : Nat → Option Blk)
def bS : Option Blk := some ⟨.ro, lc P ++ (lc Q' ++ [.sl 3 0 (2 ^ N) (.grow 4), .sl 4 0 (2 ^ N) (.grow 4)])⟩
def bX : Option Blk := some ⟨.ro, dv 5 N :: dv 6 N :: (lc a ++ lc b)⟩
def bU : Option Blk := some ⟨.ro, [dv 7 N]⟩
def tm60 (t : Nat) : List V := [.yld 8, .ptr 0 0, .ptr 1 0, .ptr 2 0, .unk, .ptr 12 0, .int .i64 t] ++ List.replicate 44 .unk
noncomputable def hd0 (t : Nat) (c d : Cap) : Heap := [bS N P Q', bX N a b, bU N, some ⟨.ro, scs (2 ^ (N - t)) (Gs us g N t)⟩, some ⟨.ro, scs (2 ^ (N - t)) (Hs us h N t)⟩, rob Lf N, rob Rf N, rob us N, some ⟨.loop r, tm⟩, A t 15 16, B t, C t,
  some ⟨.rw, lc (Ps us Lf Rf P t) ++ (lc Q' ++ [.sl 3 0 (2 ^ (N - t)) c, .sl 4 0 (2 ^ (N - t)) d])⟩, none, none, Z t, W t]
noncomputable def hd1 (t : Nat) (c d : Cap) : Heap := [bS N P Q', bX N a b, bU N, some ⟨.ro, scs (2 ^ N) g⟩, some ⟨.ro, scs (2 ^ N) h⟩, rob Lf N, rob Rf N, rob us N, some ⟨.loop r, tm⟩, A t 15 16, B t, C t,
  some ⟨.rw, lc (Ps us Lf Rf P t) ++ (lc Q' ++ [.sl 13 0 (2 ^ (N - t)) c, .sl 14 0 (2 ^ (N - t)) d])⟩, some ⟨.ro, scs (2 ^ (N - t)) (Gs us g N t)⟩, some ⟨.ro, scs (2 ^ (N - t)) (Hs us h N t)⟩, Z t, W t]
theorem step0 (hG : G 0 = tbl) (hN : N ≤ 10) (hus : ∀ j, us j < 115792089237316195423570985008687907853269984665640564039457584007913129639936) (hz : ∀ j, j < N → us j % ell ≠ 0) (hg : ∀ j, g j < 115792089237316195423570985008687907853269984665640564039457584007913129639936) (hh : ∀ j, h j < 115792089237316195423570985008687907853269984665640564039457584007913129639936) (hL : ∀ j, Lf j < 115792089237316195423570985008687907853269984665640564039457584007913129639936) (hR : ∀ j, Rf j < 115792089237316195423570985008687907853269984665640564039457584007913129639936) (hP : P < 115792089237316195423570985008687907853269984665640564039457584007913129639936) (hQ' : Q' < 115792089237316195423570985008687907853269984665640564039457584007913129639936) (htm : ∀ f : Nat → Nat, (∀ j, j < 12 → f j = j) → fit f tm tm)
    (hA : ∀ f t i j, bfit f (A t i j) (A t (f i) (f j))) (hB : ∀ f t, bfit f (B t) (B t)) (hC : ∀ f t, bfit f (C t) (C t)) (hZ : ∀ f t, bfit f (Z t) (Z t)) (hW : ∀ f t, bfit f (W t) (W t)) (hZ0 : Z 0 = none) (hW0 : W 0 = none) (hA0 : ∀ i j, A 0 i j = A 0 0 0)
    (Q : V → Heap → Prop) (Fs : Loop → Option Blk → Option Blk → Option Blk → Prop)
    (hY : ∀ t, t ≤ N → ∀ B0 B1 B2 B3 B4 B5 B6 B7 B12 B13 B14 B17, YCall Tryz.prog G 8 [stL (Ps us Lf Rf P t) Q' (.sl 18 0 (2 ^ (N - t)) (.grow 4)) (.sl 19 0 (2 ^ (N - t)) (.grow 4))]
      [B0, B1, B2, B3, B4, B5, B6, B7, some ⟨.loop r, tm⟩, A t 15 16, B t, C t, B12, B13, B14, Z t, W t, B17, some ⟨.grow, scs (2 ^ (N - t)) (Gs us g N t)⟩, some ⟨.grow, scs (2 ^ (N - t)) (Hs us h N t)⟩]
      fun v h' => (v = .bool true ∧ ∃ X, h' = B0 :: B1 :: B2 :: B3 :: B4 :: B5 :: B6 :: B7 :: some ⟨.loop r, tm⟩ :: A (t + 1) 18 19 :: B (t + 1) :: C (t + 1) :: B12 :: B13 :: B14 :: Z t :: W t :: B17 :: Z (t + 1) :: W (t + 1) :: X) ∨
        (v = .bool false ∧ ∃ r' A' B' C' X, h' = B0 :: B1 :: B2 :: B3 :: B4 :: B5 :: B6 :: B7 :: some ⟨.loop r', tm⟩ :: A' :: B' :: C' :: X ∧ (∀ f, bfit f A' A') ∧ (∀ f, bfit f B' B') ∧ (∀ f, bfit f C' C') ∧ Fs r' A' B' C'))
    (hQ1 : Q (.tup []) [bS N P Q', bX N a b, bU N, some ⟨.ro, scs (2 ^ N) g⟩, some ⟨.ro, scs (2 ^ N) h⟩, rob Lf N, rob Rf N, rob us N, some ⟨.loop r, tm⟩, A (N + 1) 12 13, B (N + 1), C (N + 1), Z (N + 1), W (N + 1)])
    (hQ2 : ∀ r' A' B' C', Fs r' A' B' C' → Q (.tup []) [bS N P Q', bX N a b, bU N, some ⟨.ro, scs (2 ^ N) g⟩, some ⟨.ro, scs (2 ^ N) h⟩, rob Lf N, rob Rf N, rob us N, some ⟨.loop r', tm⟩, A', B', C'])
    (t : Nat) (c d : Cap) (ht : t ≤ N) (hc : CapOk c (2 ^ (N - t))) (hd : CapOk d (2 ^ (N - t))) (g0 : some (⟨.ro, scs (2 ^ (N - t)) (Gs us g N t)⟩ : Blk) = some ⟨.ro, scs (2 ^ N) g⟩ ∨ 03 = 13) (h0 : some (⟨.ro, scs (2 ^ (N - t)) (Hs us h N t)⟩ : Blk) = some ⟨.ro, scs (2 ^ N) h⟩ ∨ 03 = 13)
    (next : t < N → RunM Tryz.prog G 28 12 {} Q ([TI.l v28_9, TI.b 0], ⟨tm60 (t + 1), hd1 us g h Lf Rf N P Q' a b r tm A B C Z W (t + 1) (.exact (2 ^ (N - (t + 1)))) (.exact (2 ^ (N - (t + 1))))⟩)) :
    RunM Tryz.prog G 28 12 {} Q ([TI.l v28_9, TI.b 0], ⟨tm60 t, hd0 us g h Lf Rf N P Q' a b r tm A B C Z W t c d⟩) := by
  have hp : 2 ^ N ≤ 2 ^ 10 := Nat.pow_le_pow_right (by decide) hN
  have hp0 : 0 < 2 ^ N := Nat.two_pow_pos N
  have hft : ∀ f, (∀ j, j < 12 → f j = j) → bfit f (bS N P Q') (bS N P Q') := fun f hf => by
    unfold bS
    exact bfit_same (by simp only [rens_append, lc_rens, rens, ren, hf 3 (by decide), hf 4 (by decide)])
  have hft2 : ∀ f, (∀ j, j < 12 → f j = j) → bfit f (bX N a b) (bX N a b) := fun f hf => by
    unfold bX
    exact bfit_same (by simp only [rens_append, lc_rens, rens, dv_ren, hf 5 (by decide), hf 6 (by decide)])
  have hft3 : ∀ f, (∀ j, j < 12 → f j = j) → bfit f (bU N) (bU N) := fun f hf => by
    unfold bU
    exact bfit_same (by simp only [rens, dv_ren, hf 7 (by decide)])
  have hlp : ∀ f : Nat → Nat, (∀ j, j < 12 → f j = j) → bfit f (some ⟨.loop r, tm⟩) (some ⟨.loop r, tm⟩) := fun f hf => ⟨.inl rfl, htm f hf⟩
  unfold tm60 hd0 bS bX bU
  refine run_loop_eq v28_9.eq_1 ?_
  refine run_driveS 80 ?_
  simp only [go_sem, v28_7, v28_3]
  have hn := Nat.two_pow_pos (N - t)
  have hn9 : 2 ^ (N - t) ≤ 2 ^ N := Nat.pow_le_pow_right (by decide) (by omega)
  have e0 : (2 ^ (N - t) = 0) = False := eq_false (by omega)
  have e1 : (2 ^ (N - t) * 32 ≤ 281474976710656) = True := eq_true (by omega)
  have e2 : (2 ^ (N - t) ≤ 9223372036854775807) = True := eq_true (by omega)
  refine run_drw (by kernel_rfl) ?_
  refine drun_drive 40 (p := (_, _)) ?_
  simp only [go_sem, v28_4, e0, e1, e2, scs_tk, look_ro, restore, Option.join_some, maskH, List.mapIdx_cons, List.mapIdx_nil, List.contains_cons, List.contains_nil, Bool.or_false, Bool.or_true, Bool.false_or, Bool.true_or, Nat.reduceBEq]
  rw [st_t9, st_d10, st_ap]
  refine drun_end ?_
  refine run_driveS 80 ?_
  simp only [go_sem, v28_5]
  refine run_yield' 8 rfl rfl ⟨.loop r, tm⟩ rfl rfl (YCall.mono (hY t ht _ _ _ _ _ _ _ _ _ _ _ _) ?_)
  rintro v h' (⟨rfl, X, rfl⟩ | ⟨rfl, r', A', B', C', X, rfl, fA, fB, fC, hF⟩)
  · refine trim20 (uniq20 rfl) ?_ ?_
    rotate_left
    · intro f hf
      refine ⟨by simp only [go_sem, fit, ren, hf 0, hf 1, hf 2, hf 3, hf 4, hf 8, hf 12, hf 13, hf 14, hf 17, hf 18, hf 19, rens_append, lc_rens, rens, true_or, or_true], ?_⟩
      refine ⟨hft f fun j hj => hf j (by omega), hft2 f fun j hj => hf j (by omega), hft3 f fun j hj => hf j (by omega), ?_⟩
      have hA1 := hA f (t + 1) 18 19
      rw [hf 18 (by decide), hf 19 (by decide)] at hA1
      exact ⟨bfit_same (scs_rens ..), bfit_same (scs_rens ..), bfit_rob, bfit_rob, bfit_rob, hlp f (fun j hj => hf j (by omega)), hA1, hB f _, hC f _, bfit_st (hf _ (by decide)) (hf _ (by decide)), by first | trivial | exact bfit_same (scs_rens ..), by first | trivial | exact bfit_same (scs_rens ..), hZ f _, hW f _, bfit_st (hf _ (by decide)) (hf _ (by decide)), hZ f _, hW f _⟩
    by_cases hN' : t = N
    · subst hN'
      refine run_driveS 80 ?_
      simp only [go_sem, lenO_dv, eq_int, decide_true]
      refine run_cond_t (by rfl) ?_
      refine run_ret_drop Tryz.func28 res28 [0, 1, 2, 3, 4, 5, 6, 7, 8, 9, 10, 11, 18, 19] (.tup []) _ rfl (by simp) ?_ ?_ ?_ hQ1
      · refine hfit_cons rfl ?_ (hfit_cons rfl ?_ (hfit_cons rfl ?_ (hfit_cons rfl ?_ (hfit_cons rfl ?_ (hfit_cons rfl ?_ (hfit_cons rfl ?_ (hfit_cons rfl ?_ (hfit_cons rfl ?_ (hfit_cons rfl ?_ (hfit_cons rfl ?_ (hfit_cons rfl ?_ (hfit_cons rfl ?_ (hfit_cons rfl ?_ hfit_nil)))))))))))))
        all_goals first | trivial | exact hft _ (fun j hj => gmap_r14 hj) | exact hft2 _ (fun j hj => gmap_r14 hj) | exact hft3 _ (fun j hj => gmap_r14 hj) | exact bfit_rob | exact hlp _ (fun j hj => gmap_r14 hj) | exact hA _ _ 12 13 | exact hB _ _ | exact hC _ _ | exact hZ _ _ | exact hW _ _ | exact bfit_same (scs_rens ..) | exact bfit_or g0 (by decide) (bfit_same (scs_rens ..)) | exact bfit_or h0 (by decide) (bfit_same (scs_rens ..)) | (simp only [go_sem, bfit, lc_fit, scs_fit, fit, ren, gmap, lw_plain, true_or, or_true])
      · exact uniq_nodup (by decide)
      · simp only [go_sem, rr28, ren, rens, gmap]
    · have hN0 : 0 < N := by omega
      have hgl := scs_get' N Lf (i := t) (by omega)
      have hgr := scs_get' N Rf (i := t) (by omega)
      have hgu := scs_get' N us (i := t) (by omega)
      have t0 : ((t : Int) < (N : Int)) = True := eq_true (by omega)
      simp only [dv_pos hN0, rob_pos hN0]
      refine run_driveS 80 ?_
      simp only [go_sem, lenO_sl, eq_int, decide_eq_false hN']
      refine run_cond_f (by rfl) ?_
      refine run_driveS 80 ?_
      simp only [go_sem]
      refine run_drw (by kernel_rfl) ?_
      refine drun_drive 40 (p := (_, _)) ?_
      simp only [go_sem, v28_6, t0, hgl, hgr, hgu, restore, Option.join_some, maskH, List.mapIdx_cons, List.mapIdx_nil, List.contains_cons, List.contains_nil, Bool.or_false, Bool.or_true, Bool.false_or, Bool.true_or, Nat.reduceBEq]
      have hm2 : 2 ^ (N - t) = 2 * 2 ^ (N - (t + 1)) := by rw [← Nat.pow_succ']; congr 1; omega
      have hm : 0 < 2 ^ (N - (t + 1)) := Nat.two_pow_pos _
      rw [hm2] at g0 h0 hc hd hn9 ⊢
      refine drun_call' ?_
      simp only [go_sem, calV, restore, Option.join_some, maskH, List.mapIdx_cons, List.mapIdx_nil, List.contains_cons, List.contains_nil, Bool.or_false, Bool.or_true, Bool.false_or, Bool.true_or, Nat.reduceBEq]
      refine vcall_at (folded_ hG (Ps us Lf Rf P t) Q' (Lf t) (Rf t) (us t) (2 ^ (N - (t + 1))) (Ps_lt hP t) hQ' (hL t) (hR t) (hus t) hm (by omega) c d hc hd (Gs us g N t) (Hs us h N t) (Gs_lt hg t) (Hs_lt hh t) (fun v k => v = stL (pf1 (Ps us Lf Rf P t) (Lf t) (Rf t) (us t)) Q' (.sl 2 0 (2 ^ (N - (t + 1))) (.exact (2 ^ (N - (t + 1))))) (.sl 3 0 (2 ^ (N - (t + 1))) (.exact (2 ^ (N - (t + 1))))) ∧ k = [some ⟨.ro, scs (2 * 2 ^ (N - (t + 1))) (Gs us g N t)⟩, some ⟨.ro, scs (2 * 2 ^ (N - (t + 1))) (Hs us h N t)⟩, some ⟨.rw, scs (2 ^ (N - (t + 1))) (Gs us g N (t + 1))⟩, some ⟨.rw, scs (2 ^ (N - (t + 1))) (Hs us h N (t + 1))⟩]) ⟨rfl, rfl⟩) [03, 04] (by simp) ?_ ?_ ?_ ?_
      · refine hfit_cons rfl ?_ (hfit_cons rfl ?_ hfit_nil)
        all_goals first | trivial | exact bfit_same (scs_rens ..) | (simp only [go_sem, bfit, lc_fit, scs_fit, fit, ren, gmap, lw_plain, true_or, or_true])
      · simp [uniq, wrB]
      · simp only [rens, ren, gmap, stL, lw_plain, rens_append, lc_rens]
      · rintro v k ⟨rfl, rfl⟩
        rw [puts_ro (by simp [wrB]) rfl (by simp)]
        simp only [List.map_cons, List.map_nil, Option.map_some, renB, scs_rens, rens_append, lc_rens, rens, ren, gmap, stL, List.drop_succ_cons, List.drop_zero, List.cons_append, List.nil_append, List.length_cons, List.length_nil, Nat.reduceAdd]
        refine drun_drive 40 (p := (_, _)) ?_
        simp only [go_sem, restore, Option.join_some, maskH, List.mapIdx_cons, List.mapIdx_nil, List.contains_cons, List.contains_nil, Bool.or_false, Bool.or_true, Bool.false_or, Bool.true_or, Nat.reduceBEq]
        refine drun_end ?_
        have hw : IntKind.i64.wrap ((t : Int) + 1) = ((t + 1 : Nat) : Int) := by rw [wrap_i64 (by omega) (by omega)]; omega
        refine run_driveS 80 ?_
        simp only [go_sem, v28_8, hw]
        have hx2 : bX N a b = some ⟨.ro, V.sl 5 0 N (.grow 4) :: V.sl 6 0 N (.grow 4) :: (lc a ++ lc b)⟩ := by unfold bX; rw [dv_pos hN0, dv_pos hN0]
        have hx3 : bU N = some ⟨.ro, [V.sl 7 0 N (.grow 4)]⟩ := by unfold bU; rw [dv_pos hN0]
        refine run_rename [0, 1, 2, 3, 4, 5, 6, 7, 8, 9, 10, 11, 12, 20, 21, 18, 19] rfl (by simp) ?_ ?_ ?_ (next (by omega))
        · unfold hd1
          refine hfit_cons rfl ?_ (hfit_cons rfl ?_ (hfit_cons rfl ?_ (hfit_cons rfl ?_ (hfit_cons rfl ?_ (hfit_cons rfl ?_ (hfit_cons rfl ?_ (hfit_cons rfl ?_ (hfit_cons rfl ?_ (hfit_cons rfl ?_ (hfit_cons rfl ?_ (hfit_cons rfl ?_ (hfit_cons rfl ?_ (hfit_cons rfl ?_ (hfit_cons rfl ?_ (hfit_cons rfl ?_ (hfit_cons rfl ?_ hfit_nil))))))))))))))))
          all_goals first | trivial | exact hft _ (fun j hj => gmap_r17 hj) | exact bfit_cast hx2 (hft2 _ (fun j hj => gmap_r17 hj)) | exact bfit_cast hx3 (hft3 _ (fun j hj => gmap_r17 hj)) | exact bfit_cast (rob_pos hN0) bfit_rob | exact hlp _ (fun j hj => gmap_r17 hj) | exact hA _ _ 15 16 | exact hB _ _ | exact hC _ _ | exact hZ _ _ | exact hW _ _ | exact bfit_st2 rfl rfl | exact bfit_same (scs_rens ..) | exact bfit_or g0 (by decide) (bfit_same (scs_rens ..)) | exact bfit_or h0 (by decide) (bfit_same (scs_rens ..)) | (simp only [go_sem, bfit, lc_fit, scs_fit, fit, ren, gmap, lw_plain, true_or, or_true])
        · exact uniq_nodup (by decide)
        · unfold tm60
          simp only [go_sem, hfit, lc_fit, scs_fit, fit, ren, gmap, lw_plain, true_or, or_true]
  · refine run_driveS 80 ?_
    simp only [go_sem]
    refine run_cond_t (by rfl) ?_
    refine run_ret_drop Tryz.func28 res28 [0, 1, 2, 3, 4, 5, 6, 7, 8, 9, 10, 11] (.tup []) _ rfl (by simp) ?_ ?_ ?_ (hQ2 r' A' B' C' hF)
    · refine hfit_cons rfl ?_ (hfit_cons rfl ?_ (hfit_cons rfl ?_ (hfit_cons rfl ?_ (hfit_cons rfl ?_ (hfit_cons rfl ?_ (hfit_cons rfl ?_ (hfit_cons rfl ?_ (hfit_cons rfl ?_ (hfit_cons rfl ?_ (hfit_cons rfl ?_ (hfit_cons rfl ?_ hfit_nil)))))))))))
      all_goals first | trivial | exact hft _ (fun j hj => gmap_r12 hj) | exact hft2 _ (fun j hj => gmap_r12 hj) | exact hft3 _ (fun j hj => gmap_r12 hj) | exact bfit_rob | exact (⟨.inl rfl, htm _ (fun j hj => gmap_r12 hj)⟩) | exact fA _ | exact fB _ | exact fC _ | exact bfit_same (scs_rens ..) | exact bfit_or g0 (by decide) (bfit_same (scs_rens ..)) | exact bfit_or h0 (by decide) (bfit_same (scs_rens ..)) | (simp only [go_sem, bfit, lc_fit, scs_fit, fit, ren, gmap, lw_plain, true_or, or_true])
    · exact uniq_nodup (by decide)
    · simp only [go_sem, rr28, ren, rens, gmap]
theorem step1 (hG : G 0 = tbl) (hN : N ≤ 10) (hus : ∀ j, us j < 115792089237316195423570985008687907853269984665640564039457584007913129639936) (hz : ∀ j, j < N → us j % ell ≠ 0) (hg : ∀ j, g j < 115792089237316195423570985008687907853269984665640564039457584007913129639936) (hh : ∀ j, h j < 115792089237316195423570985008687907853269984665640564039457584007913129639936) (hL : ∀ j, Lf j < 115792089237316195423570985008687907853269984665640564039457584007913129639936) (hR : ∀ j, Rf j < 115792089237316195423570985008687907853269984665640564039457584007913129639936) (hP : P < 115792089237316195423570985008687907853269984665640564039457584007913129639936) (hQ' : Q' < 115792089237316195423570985008687907853269984665640564039457584007913129639936) (htm : ∀ f : Nat → Nat, (∀ j, j < 12 → f j = j) → fit f tm tm)
    (hA : ∀ f t i j, bfit f (A t i j) (A t (f i) (f j))) (hB : ∀ f t, bfit f (B t) (B t)) (hC : ∀ f t, bfit f (C t) (C t)) (hZ : ∀ f t, bfit f (Z t) (Z t)) (hW : ∀ f t, bfit f (W t) (W t)) (hZ0 : Z 0 = none) (hW0 : W 0 = none) (hA0 : ∀ i j, A 0 i j = A 0 0 0)
    (Q : V → Heap → Prop) (Fs : Loop → Option Blk → Option Blk → Option Blk → Prop)
    (hY : ∀ t, t ≤ N → ∀ B0 B1 B2 B3 B4 B5 B6 B7 B12 B13 B14 B17, YCall Tryz.prog G 8 [stL (Ps us Lf Rf P t) Q' (.sl 18 0 (2 ^ (N - t)) (.grow 4)) (.sl 19 0 (2 ^ (N - t)) (.grow 4))]
      [B0, B1, B2, B3, B4, B5, B6, B7, some ⟨.loop r, tm⟩, A t 15 16, B t, C t, B12, B13, B14, Z t, W t, B17, some ⟨.grow, scs (2 ^ (N - t)) (Gs us g N t)⟩, some ⟨.grow, scs (2 ^ (N - t)) (Hs us h N t)⟩]
      fun v h' => (v = .bool true ∧ ∃ X, h' = B0 :: B1 :: B2 :: B3 :: B4 :: B5 :: B6 :: B7 :: some ⟨.loop r, tm⟩ :: A (t + 1) 18 19 :: B (t + 1) :: C (t + 1) :: B12 :: B13 :: B14 :: Z t :: W t :: B17 :: Z (t + 1) :: W (t + 1) :: X) ∨
        (v = .bool false ∧ ∃ r' A' B' C' X, h' = B0 :: B1 :: B2 :: B3 :: B4 :: B5 :: B6 :: B7 :: some ⟨.loop r', tm⟩ :: A' :: B' :: C' :: X ∧ (∀ f, bfit f A' A') ∧ (∀ f, bfit f B' B') ∧ (∀ f, bfit f C' C') ∧ Fs r' A' B' C'))
    (hQ1 : Q (.tup []) [bS N P Q', bX N a b, bU N, some ⟨.ro, scs (2 ^ N) g⟩, some ⟨.ro, scs (2 ^ N) h⟩, rob Lf N, rob Rf N, rob us N, some ⟨.loop r, tm⟩, A (N + 1) 12 13, B (N + 1), C (N + 1), Z (N + 1), W (N + 1)])
    (hQ2 : ∀ r' A' B' C', Fs r' A' B' C' → Q (.tup []) [bS N P Q', bX N a b, bU N, some ⟨.ro, scs (2 ^ N) g⟩, some ⟨.ro, scs (2 ^ N) h⟩, rob Lf N, rob Rf N, rob us N, some ⟨.loop r', tm⟩, A', B', C'])
    (t : Nat) (c d : Cap) (ht : t ≤ N) (hc : CapOk c (2 ^ (N - t))) (hd : CapOk d (2 ^ (N - t))) (g0 : some (⟨.ro, scs (2 ^ (N - t)) (Gs us g N t)⟩ : Blk) = some ⟨.ro, scs (2 ^ N) g⟩ ∨ 13 = 13) (h0 : some (⟨.ro, scs (2 ^ (N - t)) (Hs us h N t)⟩ : Blk) = some ⟨.ro, scs (2 ^ N) h⟩ ∨ 13 = 13)
    (next : t < N → RunM Tryz.prog G 28 12 {} Q ([TI.l v28_9, TI.b 0], ⟨tm60 (t + 1), hd1 us g h Lf Rf N P Q' a b r tm A B C Z W (t + 1) (.exact (2 ^ (N - (t + 1)))) (.exact (2 ^ (N - (t + 1))))⟩)) :
    RunM Tryz.prog G 28 12 {} Q ([TI.l v28_9, TI.b 0], ⟨tm60 t, hd1 us g h Lf Rf N P Q' a b r tm A B C Z W t c d⟩) := by
  have hp : 2 ^ N ≤ 2 ^ 10 := Nat.pow_le_pow_right (by decide) hN
  have hp0 : 0 < 2 ^ N := Nat.two_pow_pos N
  have hft : ∀ f, (∀ j, j < 12 → f j = j) → bfit f (bS N P Q') (bS N P Q') := fun f hf => by
    unfold bS
    exact bfit_same (by simp only [rens_append, lc_rens, rens, ren, hf 3 (by decide), hf 4 (by decide)])
  have hft2 : ∀ f, (∀ j, j < 12 → f j = j) → bfit f (bX N a b) (bX N a b) := fun f hf => by
    unfold bX
    exact bfit_same (by simp only [rens_append, lc_rens, rens, dv_ren, hf 5 (by decide), hf 6 (by decide)])
  have hft3 : ∀ f, (∀ j, j < 12 → f j = j) → bfit f (bU N) (bU N) := fun f hf => by
    unfold bU
    exact bfit_same (by simp only [rens, dv_ren, hf 7 (by decide)])
  have hlp : ∀ f : Nat → Nat, (∀ j, j < 12 → f j = j) → bfit f (some ⟨.loop r, tm⟩) (some ⟨.loop r, tm⟩) := fun f hf => ⟨.inl rfl, htm f hf⟩
  unfold tm60 hd1 bS bX bU
  refine run_loop_eq v28_9.eq_1 ?_
  refine run_driveS 80 ?_
  simp only [go_sem, v28_7, v28_3]
  have hn := Nat.two_pow_pos (N - t)
  have hn9 : 2 ^ (N - t) ≤ 2 ^ N := Nat.pow_le_pow_right (by decide) (by omega)
  have e0 : (2 ^ (N - t) = 0) = False := eq_false (by omega)
  have e1 : (2 ^ (N - t) * 32 ≤ 281474976710656) = True := eq_true (by omega)
  have e2 : (2 ^ (N - t) ≤ 9223372036854775807) = True := eq_true (by omega)
  refine run_drw (by kernel_rfl) ?_
  refine drun_drive 40 (p := (_, _)) ?_
  simp only [go_sem, v28_4, e0, e1, e2, scs_tk, look_ro, restore, Option.join_some, maskH, List.mapIdx_cons, List.mapIdx_nil, List.contains_cons, List.contains_nil, Bool.or_false, Bool.or_true, Bool.false_or, Bool.true_or, Nat.reduceBEq]
  rw [st_t9, st_d10, st_ap]
  refine drun_end ?_
  refine run_driveS 80 ?_
  simp only [go_sem, v28_5]
  refine run_yield' 8 rfl rfl ⟨.loop r, tm⟩ rfl rfl (YCall.mono (hY t ht _ _ _ _ _ _ _ _ _ _ _ _) ?_)
  rintro v h' (⟨rfl, X, rfl⟩ | ⟨rfl, r', A', B', C', X, rfl, fA, fB, fC, hF⟩)
  · refine trim20 (uniq20 rfl) ?_ ?_
    rotate_left
    · intro f hf
      refine ⟨by simp only [go_sem, fit, ren, hf 0, hf 1, hf 2, hf 3, hf 4, hf 8, hf 12, hf 13, hf 14, hf 17, hf 18, hf 19, rens_append, lc_rens, rens, true_or, or_true], ?_⟩
      refine ⟨hft f fun j hj => hf j (by omega), hft2 f fun j hj => hf j (by omega), hft3 f fun j hj => hf j (by omega), ?_⟩
      have hA1 := hA f (t + 1) 18 19
      rw [hf 18 (by decide), hf 19 (by decide)] at hA1
      exact ⟨bfit_same (scs_rens ..), bfit_same (scs_rens ..), bfit_rob, bfit_rob, bfit_rob, hlp f (fun j hj => hf j (by omega)), hA1, hB f _, hC f _, bfit_st (hf _ (by decide)) (hf _ (by decide)), by first | trivial | exact bfit_same (scs_rens ..), by first | trivial | exact bfit_same (scs_rens ..), hZ f _, hW f _, bfit_st (hf _ (by decide)) (hf _ (by decide)), hZ f _, hW f _⟩
    by_cases hN' : t = N
    · subst hN'
      refine run_driveS 80 ?_
      simp only [go_sem, lenO_dv, eq_int, decide_true]
      refine run_cond_t (by rfl) ?_
      refine run_ret_drop Tryz.func28 res28 [0, 1, 2, 3, 4, 5, 6, 7, 8, 9, 10, 11, 18, 19] (.tup []) _ rfl (by simp) ?_ ?_ ?_ hQ1
      · refine hfit_cons rfl ?_ (hfit_cons rfl ?_ (hfit_cons rfl ?_ (hfit_cons rfl ?_ (hfit_cons rfl ?_ (hfit_cons rfl ?_ (hfit_cons rfl ?_ (hfit_cons rfl ?_ (hfit_cons rfl ?_ (hfit_cons rfl ?_ (hfit_cons rfl ?_ (hfit_cons rfl ?_ (hfit_cons rfl ?_ (hfit_cons rfl ?_ hfit_nil)))))))))))))
        all_goals first | trivial | exact hft _ (fun j hj => gmap_r14 hj) | exact hft2 _ (fun j hj => gmap_r14 hj) | exact hft3 _ (fun j hj => gmap_r14 hj) | exact bfit_rob | exact hlp _ (fun j hj => gmap_r14 hj) | exact hA _ _ 12 13 | exact hB _ _ | exact hC _ _ | exact hZ _ _ | exact hW _ _ | exact bfit_same (scs_rens ..) | exact bfit_or g0 (by decide) (bfit_same (scs_rens ..)) | exact bfit_or h0 (by decide) (bfit_same (scs_rens ..)) | (simp only [go_sem, bfit, lc_fit, scs_fit, fit, ren, gmap, lw_plain, true_or, or_true])
      · exact uniq_nodup (by decide)
      · simp only [go_sem, rr28, ren, rens, gmap]
    · have hN0 : 0 < N := by omega
      have hgl := scs_get' N Lf (i := t) (by omega)
      have hgr := scs_get' N Rf (i := t) (by omega)
      have hgu := scs_get' N us (i := t) (by omega)
      have t0 : ((t : Int) < (N : Int)) = True := eq_true (by omega)
      simp only [dv_pos hN0, rob_pos hN0]
      refine run_driveS 80 ?_
      simp only [go_sem, lenO_sl, eq_int, decide_eq_false hN']
      refine run_cond_f (by rfl) ?_
      refine run_driveS 80 ?_
      simp only [go_sem]
      refine run_drw (by kernel_rfl) ?_
      refine drun_drive 40 (p := (_, _)) ?_
      simp only [go_sem, v28_6, t0, hgl, hgr, hgu, restore, Option.join_some, maskH, List.mapIdx_cons, List.mapIdx_nil, List.contains_cons, List.contains_nil, Bool.or_false, Bool.or_true, Bool.false_or, Bool.true_or, Nat.reduceBEq]
      have hm2 : 2 ^ (N - t) = 2 * 2 ^ (N - (t + 1)) := by rw [← Nat.pow_succ']; congr 1; omega
      have hm : 0 < 2 ^ (N - (t + 1)) := Nat.two_pow_pos _
      rw [hm2] at g0 h0 hc hd hn9 ⊢
      refine drun_call' ?_
      simp only [go_sem, calV, restore, Option.join_some, maskH, List.mapIdx_cons, List.mapIdx_nil, List.contains_cons, List.contains_nil, Bool.or_false, Bool.or_true, Bool.false_or, Bool.true_or, Nat.reduceBEq]
      refine vcall_at (folded_ hG (Ps us Lf Rf P t) Q' (Lf t) (Rf t) (us t) (2 ^ (N - (t + 1))) (Ps_lt hP t) hQ' (hL t) (hR t) (hus t) hm (by omega) c d hc hd (Gs us g N t) (Hs us h N t) (Gs_lt hg t) (Hs_lt hh t) (fun v k => v = stL (pf1 (Ps us Lf Rf P t) (Lf t) (Rf t) (us t)) Q' (.sl 2 0 (2 ^ (N - (t + 1))) (.exact (2 ^ (N - (t + 1))))) (.sl 3 0 (2 ^ (N - (t + 1))) (.exact (2 ^ (N - (t + 1))))) ∧ k = [some ⟨.ro, scs (2 * 2 ^ (N - (t + 1))) (Gs us g N t)⟩, some ⟨.ro, scs (2 * 2 ^ (N - (t + 1))) (Hs us h N t)⟩, some ⟨.rw, scs (2 ^ (N - (t + 1))) (Gs us g N (t + 1))⟩, some ⟨.rw, scs (2 ^ (N - (t + 1))) (Hs us h N (t + 1))⟩]) ⟨rfl, rfl⟩) [13, 14] (by simp) ?_ ?_ ?_ ?_
      · refine hfit_cons rfl ?_ (hfit_cons rfl ?_ hfit_nil)
        all_goals first | trivial | exact bfit_same (scs_rens ..) | (simp only [go_sem, bfit, lc_fit, scs_fit, fit, ren, gmap, lw_plain, true_or, or_true])
      · simp [uniq, wrB]
      · simp only [rens, ren, gmap, stL, lw_plain, rens_append, lc_rens]
      · rintro v k ⟨rfl, rfl⟩
        rw [puts_ro (by simp [wrB]) rfl (by simp)]
        simp only [List.map_cons, List.map_nil, Option.map_some, renB, scs_rens, rens_append, lc_rens, rens, ren, gmap, stL, List.drop_succ_cons, List.drop_zero, List.cons_append, List.nil_append, List.length_cons, List.length_nil, Nat.reduceAdd]
        refine drun_drive 40 (p := (_, _)) ?_
        simp only [go_sem, restore, Option.join_some, maskH, List.mapIdx_cons, List.mapIdx_nil, List.contains_cons, List.contains_nil, Bool.or_false, Bool.or_true, Bool.false_or, Bool.true_or, Nat.reduceBEq]
        refine drun_end ?_
        have hw : IntKind.i64.wrap ((t : Int) + 1) = ((t + 1 : Nat) : Int) := by rw [wrap_i64 (by omega) (by omega)]; omega
        refine run_driveS 80 ?_
        simp only [go_sem, v28_8, hw]
        have hx2 : bX N a b = some ⟨.ro, V.sl 5 0 N (.grow 4) :: V.sl 6 0 N (.grow 4) :: (lc a ++ lc b)⟩ := by unfold bX; rw [dv_pos hN0, dv_pos hN0]
        have hx3 : bU N = some ⟨.ro, [V.sl 7 0 N (.grow 4)]⟩ := by unfold bU; rw [dv_pos hN0]
        refine run_rename [0, 1, 2, 3, 4, 5, 6, 7, 8, 9, 10, 11, 12, 20, 21, 18, 19] rfl (by simp) ?_ ?_ ?_ (next (by omega))
        · unfold hd1
          refine hfit_cons rfl ?_ (hfit_cons rfl ?_ (hfit_cons rfl ?_ (hfit_cons rfl ?_ (hfit_cons rfl ?_ (hfit_cons rfl ?_ (hfit_cons rfl ?_ (hfit_cons rfl ?_ (hfit_cons rfl ?_ (hfit_cons rfl ?_ (hfit_cons rfl ?_ (hfit_cons rfl ?_ (hfit_cons rfl ?_ (hfit_cons rfl ?_ (hfit_cons rfl ?_ (hfit_cons rfl ?_ (hfit_cons rfl ?_ hfit_nil))))))))))))))))
          all_goals first | trivial | exact hft _ (fun j hj => gmap_r17 hj) | exact bfit_cast hx2 (hft2 _ (fun j hj => gmap_r17 hj)) | exact bfit_cast hx3 (hft3 _ (fun j hj => gmap_r17 hj)) | exact bfit_cast (rob_pos hN0) bfit_rob | exact hlp _ (fun j hj => gmap_r17 hj) | exact hA _ _ 15 16 | exact hB _ _ | exact hC _ _ | exact hZ _ _ | exact hW _ _ | exact bfit_st2 rfl rfl | exact bfit_same (scs_rens ..) | exact bfit_or g0 (by decide) (bfit_same (scs_rens ..)) | exact bfit_or h0 (by decide) (bfit_same (scs_rens ..)) | (simp only [go_sem, bfit, lc_fit, scs_fit, fit, ren, gmap, lw_plain, true_or, or_true])
        · exact uniq_nodup (by decide)
        · unfold tm60
          simp only [go_sem, hfit, lc_fit, scs_fit, fit, ren, gmap, lw_plain, true_or, or_true]
  · refine run_driveS 80 ?_
    simp only [go_sem]
    refine run_cond_t (by rfl) ?_
    refine run_ret_drop Tryz.func28 res28 [0, 1, 2, 3, 4, 5, 6, 7, 8, 9, 10, 11] (.tup []) _ rfl (by simp) ?_ ?_ ?_ (hQ2 r' A' B' C' hF)
    · refine hfit_cons rfl ?_ (hfit_cons rfl ?_ (hfit_cons rfl ?_ (hfit_cons rfl ?_ (hfit_cons rfl ?_ (hfit_cons rfl ?_ (hfit_cons rfl ?_ (hfit_cons rfl ?_ (hfit_cons rfl ?_ (hfit_cons rfl ?_ (hfit_cons rfl ?_ (hfit_cons rfl ?_ hfit_nil)))))))))))
      all_goals first | trivial | exact hft _ (fun j hj => gmap_r12 hj) | exact hft2 _ (fun j hj => gmap_r12 hj) | exact hft3 _ (fun j hj => gmap_r12 hj) | exact bfit_rob | exact (⟨.inl rfl, htm _ (fun j hj => gmap_r12 hj)⟩) | exact fA _ | exact fB _ | exact fC _ | exact bfit_same (scs_rens ..) | exact bfit_or g0 (by decide) (bfit_same (scs_rens ..)) | exact bfit_or h0 (by decide) (bfit_same (scs_rens ..)) | (simp only [go_sem, bfit, lc_fit, scs_fit, fit, ren, gmap, lw_plain, true_or, or_true])
    · exact uniq_nodup (by decide)
    · simp only [go_sem, rr28, ren, rens, gmap]
theorem rounds1 (hG : G 0 = tbl) (hN : N ≤ 10) (hus : ∀ j, us j < 115792089237316195423570985008687907853269984665640564039457584007913129639936) (hz : ∀ j, j < N → us j % ell ≠ 0) (hg : ∀ j, g j < 115792089237316195423570985008687907853269984665640564039457584007913129639936) (hh : ∀ j, h j < 115792089237316195423570985008687907853269984665640564039457584007913129639936) (hL : ∀ j, Lf j < 115792089237316195423570985008687907853269984665640564039457584007913129639936) (hR : ∀ j, Rf j < 115792089237316195423570985008687907853269984665640564039457584007913129639936) (hP : P < 115792089237316195423570985008687907853269984665640564039457584007913129639936) (hQ' : Q' < 115792089237316195423570985008687907853269984665640564039457584007913129639936) (htm : ∀ f : Nat → Nat, (∀ j, j < 12 → f j = j) → fit f tm tm)
    (hA : ∀ f t i j, bfit f (A t i j) (A t (f i) (f j))) (hB : ∀ f t, bfit f (B t) (B t)) (hC : ∀ f t, bfit f (C t) (C t)) (hZ : ∀ f t, bfit f (Z t) (Z t)) (hW : ∀ f t, bfit f (W t) (W t)) (hZ0 : Z 0 = none) (hW0 : W 0 = none) (hA0 : ∀ i j, A 0 i j = A 0 0 0)
    (Q : V → Heap → Prop) (Fs : Loop → Option Blk → Option Blk → Option Blk → Prop)
    (hY : ∀ t, t ≤ N → ∀ B0 B1 B2 B3 B4 B5 B6 B7 B12 B13 B14 B17, YCall Tryz.prog G 8 [stL (Ps us Lf Rf P t) Q' (.sl 18 0 (2 ^ (N - t)) (.grow 4)) (.sl 19 0 (2 ^ (N - t)) (.grow 4))]
      [B0, B1, B2, B3, B4, B5, B6, B7, some ⟨.loop r, tm⟩, A t 15 16, B t, C t, B12, B13, B14, Z t, W t, B17, some ⟨.grow, scs (2 ^ (N - t)) (Gs us g N t)⟩, some ⟨.grow, scs (2 ^ (N - t)) (Hs us h N t)⟩]
      fun v h' => (v = .bool true ∧ ∃ X, h' = B0 :: B1 :: B2 :: B3 :: B4 :: B5 :: B6 :: B7 :: some ⟨.loop r, tm⟩ :: A (t + 1) 18 19 :: B (t + 1) :: C (t + 1) :: B12 :: B13 :: B14 :: Z t :: W t :: B17 :: Z (t + 1) :: W (t + 1) :: X) ∨
        (v = .bool false ∧ ∃ r' A' B' C' X, h' = B0 :: B1 :: B2 :: B3 :: B4 :: B5 :: B6 :: B7 :: some ⟨.loop r', tm⟩ :: A' :: B' :: C' :: X ∧ (∀ f, bfit f A' A') ∧ (∀ f, bfit f B' B') ∧ (∀ f, bfit f C' C') ∧ Fs r' A' B' C'))
    (hQ1 : Q (.tup []) [bS N P Q', bX N a b, bU N, some ⟨.ro, scs (2 ^ N) g⟩, some ⟨.ro, scs (2 ^ N) h⟩, rob Lf N, rob Rf N, rob us N, some ⟨.loop r, tm⟩, A (N + 1) 12 13, B (N + 1), C (N + 1), Z (N + 1), W (N + 1)])
    (hQ2 : ∀ r' A' B' C', Fs r' A' B' C' → Q (.tup []) [bS N P Q', bX N a b, bU N, some ⟨.ro, scs (2 ^ N) g⟩, some ⟨.ro, scs (2 ^ N) h⟩, rob Lf N, rob Rf N, rob us N, some ⟨.loop r', tm⟩, A', B', C']) :
    VCall Tryz.prog G 28 [.yld 8, .ptr 0 0, .ptr 1 0, .ptr 2 0] [bS N P Q', bX N a b, bU N, some ⟨.ro, scs (2 ^ N) g⟩, some ⟨.ro, scs (2 ^ N) h⟩, rob Lf N, rob Rf N, rob us N, some ⟨.loop r, tm⟩, A 0 0 0, B 0, C 0] Q := by
  have hp : 2 ^ N ≤ 2 ^ 10 := Nat.pow_le_pow_right (by decide) hN
  have hp0 : 0 < 2 ^ N := Nat.two_pow_pos N
  have hfits := fits_dv (G := G) hG P Q' a b N hN (.grow 4) (.grow 4) us hus hz (fun v k => v = .int .i64 0 ∧ k = [rob us N, none, none, none, none]) ⟨rfl, rfl⟩
  have hft : ∀ f, (∀ j, j < 12 → f j = j) → bfit f (bS N P Q') (bS N P Q') := fun f hf => by
    unfold bS
    exact bfit_same (by simp only [rens_append, lc_rens, rens, ren, hf 3 (by decide), hf 4 (by decide)])
  have hft2 : ∀ f, (∀ j, j < 12 → f j = j) → bfit f (bX N a b) (bX N a b) := fun f hf => by
    unfold bX
    exact bfit_same (by simp only [rens_append, lc_rens, rens, dv_ren, hf 5 (by decide), hf 6 (by decide)])
  have hft3 : ∀ f, (∀ j, j < 12 → f j = j) → bfit f (bU N) (bU N) := fun f hf => by
    unfold bU
    exact bfit_same (by simp only [rens, dv_ren, hf 7 (by decide)])
  have hlp : ∀ f : Nat → Nat, (∀ j, j < 12 → f j = j) → bfit f (some ⟨.loop r, tm⟩) (some ⟨.loop r, tm⟩) := fun f hf => ⟨.inl rfl, htm f hf⟩
  refine vcall_body Tryz.func28 nm28 code28 nt28 ?_
  unfold bS bX bU
  refine run_driveS 80 ?_
  simp only [go_sem, v28, v28_0]
  refine run_call' rfl ?_
  simp only [go_sem, calV]
  refine vcall_at hfits [7, 3, 4, 5, 6] (by simp) ?_ ?_ ?_ ?_
  · refine hfit_cons rfl ?_ (hfit_cons rfl ?_ (hfit_cons rfl ?_ (hfit_cons rfl ?_ (hfit_cons rfl ?_ hfit_nil))))
    all_goals first | trivial | exact bfit_rob | (simp only [go_sem, bfit, lc_fit, scs_fit, fit, ren, gmap, lw_plain, true_or, or_true])
  · simp [uniq, wrB]
  · simp only [rens, ren, gmap, stL_ren, arL_ren, dv_ren, stL, arL, rens_append, lc_rens]
  · rintro v k ⟨rfl, rfl⟩
    rw [puts_keep (by intro x hx; simp only [List.mem_cons, List.mem_nil_iff, or_false] at hx; rcases hx with e | e | e | e | e <;> subst e <;> first | rfl | exact wrB_rob ..) rfl]
    refine run_driveS 80 ?_
    simp only [go_sem, eq_int, decide_true]
    refine run_cond_f (by rfl) ?_
    refine run_driveS 80 ?_
    simp only [go_sem, v28_1, v28_2, v28_10]
    have loop : ∀ j t, t + j = N → ∀ c d, CapOk c (2 ^ (N - t)) → CapOk d (2 ^ (N - t)) → RunM Tryz.prog G 28 12 {} Q ([TI.l v28_9, TI.b 0], ⟨tm60 t, hd1 us g h Lf Rf N P Q' a b r tm A B C Z W t c d⟩) := by
      intro j
      induction j with
      | zero => exact fun t ht c d hc hd => step1 us g h Lf Rf N P Q' a b r tm A B C Z W hG hN hus hz hg hh hL hR hP hQ' htm hA hB hC hZ hW hZ0 hW0 hA0 Q Fs hY hQ1 hQ2 t c d (by omega) hc hd (.inr rfl) (.inr rfl) (fun h => absurd h (by omega))
      | succ j ih => exact fun t ht c d hc hd => step1 us g h Lf Rf N P Q' a b r tm A B C Z W hG hN hus hz hg hh hL hR hP hQ' htm hA hB hC hZ hW hZ0 hW0 hA0 Q Fs hY hQ1 hQ2 t c d (by omega) hc hd (.inr rfl) (.inr rfl) (fun h => ih (t + 1) (by omega) _ _ (.inr ⟨_, rfl, Nat.le_refl _⟩) (.inr ⟨_, rfl, Nat.le_refl _⟩))
    refine run_rename [0, 1, 2, 3, 4, 5, 6, 7, 8, 9, 10, 11, 12, 13, 14, 15, 16] rfl (by simp) ?_ ?_ ?_ (step0 us g h Lf Rf N P Q' a b r tm A B C Z W hG hN hus hz hg hh hL hR hP hQ' htm hA hB hC hZ hW hZ0 hW0 hA0 Q Fs hY hQ1 hQ2 0 (.grow 4) (.grow 4) (Nat.zero_le _) (.inl rfl) (.inl rfl) (.inl rfl) (.inl rfl) (fun h => loop (N - 1) 1 (by omega) _ _ (.inr ⟨_, rfl, Nat.le_refl _⟩) (.inr ⟨_, rfl, Nat.le_refl _⟩)))
    · unfold hd0
      refine hfit_cons rfl (hft _ (fun j hj => gmap_r17' hj)) (hfit_cons rfl (hft2 _ (fun j hj => gmap_r17' hj)) (hfit_cons rfl (hft3 _ (fun j hj => gmap_r17' hj)) (hfit_cons rfl (bfit_same (scs_rens ..)) (hfit_cons rfl (bfit_same (scs_rens ..)) (hfit_cons rfl bfit_rob (hfit_cons rfl bfit_rob (hfit_cons rfl bfit_rob (hfit_cons rfl (hlp _ (fun j hj => gmap_r17' hj)) (hfit_cons rfl ?_ (hfit_cons rfl (hB _ _) (hfit_cons rfl (hC _ _) (hfit_cons rfl (bfit_st2 rfl rfl) ?_))))))))))))
      · have := hA (gmap [0, 1, 2, 3, 4, 5, 6, 7, 8, 9, 10, 11, 12, 13, 14, 15, 16] 13) 0 15 16
        rw [hA0 (gmap _ _ 15)] at this
        exact this
      · rw [hZ0, hW0]
        exact hfit_cons_none (hfit_cons_none (hfit_cons_none (hfit_cons_none hfit_nil)))
    · exact uniq_nodup (by decide)
    · unfold tm60
      simp only [go_sem, hfit, lc_fit, scs_fit, fit, ren, gmap, lw_plain, true_or, or_true]
end
end
section
attribute [local go_sem ↓] lc_len lc_take lc_drop lc_known lc_one lc_rens lc_cells lw_known lw_agg lw_asG scs_known scs_one scs_len lc_take_add lc_drop_add lenO_dv dv_known dv_one dv_ren
attribute [local go_sem] lt_nat lt_natl lt_lnat lt_ll bool_tf bool_ft
set_option maxRecDepth 100000
set_option maxHeartbeats 2000000
theorem dv_zero (b : Nat) : dv b 0 = .nils := rfl
theorem db_zero (g : Nat → Nat) : db g 0 = none := rfl
theorem scs_tk0 (f : Nat → Nat) : scs 0 f = [] := rfl
theorem bfit_g {f : Nat → Nat} {k : Kind} {c : List V} (h : rens f c = c) : bfit f (some ⟨k, c⟩) (some ⟨k, c⟩) := ⟨.inl rfl, fit_same h⟩
theorem bfit_x {f : Nat → Nat} {x y x' y' : V} {a b : Nat} (hx : ren f x = x') (hy : ren f y = y') : bfit f (some ⟨.rw, x :: y :: (lc a ++ lc b)⟩) (some ⟨.rw, x' :: y' :: (lc a ++ lc b)⟩) := by
  refine ⟨.inl rfl, ?_⟩
  have h := fit_rens f (x :: y :: (lc a ++ lc b))
  simpa only [rens_append, lc_rens, rens, hx, hy] using h
theorem bfit_u {f : Nat → Nat} {x x' : V} (hx : ren f x = x') : bfit f (some ⟨.rw, [x]⟩) (some ⟨.rw, [x']⟩) := by
  refine ⟨.inl rfl, ?_⟩
  have h := fit_rens f [x]
  simpa only [rens, hx] using h
end
section
attribute [local go_sem ↓] lc_len lc_take lc_drop lc_known lc_one lc_rens lc_cells lw_known lw_agg lw_asG scs_known scs_one scs_len lc_take_add lc_drop_add lenO_dv dv_known dv_one dv_ren
attribute [local go_sem] lt_nat lt_natl lt_lnat lt_ll bool_tf bool_ft
set_option maxRecDepth 100000
set_option maxHeartbeats 2000000
theorem scs_tkr (n : Nat) (f : Nat → Nat) (r : List V) : (scs n f ++ r).take (n * 4) = scs n f := by rw [List.take_append_of_le_length (by rw [scs_len]; exact Nat.le_refl _), scs_tk]
theorem bfit_sm2 {f g : Nat → Nat} {n : Nat} {r : List V} {k : Kind} (h : ∀ f, rens f r = r) (hk : k.m = true := by rfl) : bfit g (some ⟨.ro, scs n f ++ r⟩) (some ⟨k, scs n f ++ r⟩) := bfit_same (by rw [rens_append, scs_rens, h]) hk
theorem rounds_fn2 (P Q' a b N : Nat) (hN : N ≤ 10) (c1 c2 cL cR : Cap) (g h Lf Rf us : Nat → Nat) (rG rH rL rR rU : List V) (hrG : ∀ f, rens f rG = rG) (hrH : ∀ f, rens f rH = rH) (hrL : ∀ f, rens f rL = rL) (hrR : ∀ f, rens f rR = rR) (hrU : ∀ f, rens f rU = rU) (cU : Cap) (Q : V → Heap → Prop)
    (hQ : Q (.fn (.func 28) [] [.ptr 5 0, .ptr 6 0, .ptr 7 0]) [some ⟨.ro, scs (2 ^ N) g ++ rG⟩, some ⟨.ro, scs (2 ^ N) h ++ rH⟩, some ⟨.ro, scs N Lf ++ rL⟩, some ⟨.ro, scs N Rf ++ rR⟩, some ⟨.ro, scs N us ++ rU⟩, some ⟨.rw, lc P ++ (lc Q' ++ [.sl 8 0 (2 ^ N) (.grow 4), .sl 9 0 (2 ^ N) (.grow 4)])⟩, some ⟨.rw, dv 10 N :: dv 11 N :: (lc a ++ lc b)⟩, some ⟨.rw, [dv 12 N]⟩, some ⟨.grow, scs (2 ^ N) g⟩, some ⟨.grow, scs (2 ^ N) h⟩, db Lf N, db Rf N, db us N]) :
    VCall Tryz.prog G 19 [stL P Q' (.sl 0 0 (2 ^ N) c1) (.sl 1 0 (2 ^ N) c2), arL (.sl 2 0 N cL) (.sl 3 0 N cR) a b, .sl 4 0 N cU] [some ⟨.ro, scs (2 ^ N) g ++ rG⟩, some ⟨.ro, scs (2 ^ N) h ++ rH⟩, some ⟨.ro, scs N Lf ++ rL⟩, some ⟨.ro, scs N Rf ++ rR⟩, some ⟨.ro, scs N us ++ rU⟩] Q := by
  have hp : 2 ^ N ≤ 2 ^ 10 := Nat.pow_le_pow_right (by decide) hN
  have hp0 : 0 < 2 ^ N := Nat.two_pow_pos N
  have e0 : (2 ^ N = 0) = False := eq_false (by omega)
  have e1 : (2 ^ N * 32 ≤ 281474976710656) = True := eq_true (by omega)
  have e2 : (2 ^ N ≤ 9223372036854775807) = True := eq_true (by omega)
  have f1 : (N * 32 ≤ 281474976710656) = True := eq_true (by omega)
  have f2 : (N ≤ 9223372036854775807) = True := eq_true (by omega)
  refine vcall_body Tryz.func19 nm19 code19 nt19 ?_
  unfold stL arL
  by_cases hN0 : N = 0
  · subst hN0
    simp only [dv_zero, db_zero] at hQ ⊢
    refine run_driveS 80 ?_
    simp only [go_sem, v19, v19_0]
    refine run_drw (by kernel_rfl) ?_
    refine drun_drive 40 (p := (_, _)) ?_
    simp only [go_sem, v19_1, e0, e1, e2, scs_tkr, look_ro, restore, Option.join_some, maskH, List.mapIdx_cons, List.mapIdx_nil, List.contains_cons, List.contains_nil, Bool.or_false, Bool.or_true, Bool.false_or, Bool.true_or, Nat.reduceBEq]
    refine drun_end ?_
    refine run_driveS 80 ?_
    simp only [go_sem]
    refine run_drw (by kernel_rfl) ?_
    refine drun_drive 40 (p := (_, _)) ?_
    simp only [go_sem, v19_2, f1, f2, if_true, scs_tk0, dv_zero, List.take_zero, List.length_nil, Nat.zero_mul, List.all_nil, scs_tkr, look_ro, restore, Option.join_some, maskH, List.mapIdx_cons, List.mapIdx_nil, List.contains_cons, List.contains_nil, Bool.or_false, Bool.or_true, Bool.false_or, Bool.true_or, Nat.reduceBEq]
    refine drun_end ?_
    refine run_driveS 80 ?_
    simp only [go_sem, v19_3, v19_4, f1, f2, if_true, scs_tk0, dv_zero, List.take_zero, List.length_nil, Nat.zero_mul, List.all_nil, scs_tkr, look_ro]
    rw [st_t9, st_d10, st_ap]
    refine run_ret_drop Tryz.func19 res19 [0, 1, 2, 3, 4, 5, 6, 7, 8, 9, 10, 11, 12] (.fn (.func 28) [] [.ptr 5 0, .ptr 6 0, .ptr 7 0]) _ rfl (by simp) ?_ ?_ ?_ hQ
    · refine hfit_cons rfl ?_ (hfit_cons rfl ?_ (hfit_cons rfl ?_ (hfit_cons rfl ?_ (hfit_cons rfl ?_ (hfit_cons rfl ?_ (hfit_cons rfl ?_ (hfit_cons rfl ?_ (hfit_cons rfl ?_ (hfit_cons rfl ?_ (hfit_cons_none (hfit_cons_none (hfit_cons_none hfit_nil))))))))))))
      all_goals first | trivial | exact bfit_sm2 hrG | exact bfit_sm2 hrH | exact bfit_sm2 hrL | exact bfit_sm2 hrR | exact bfit_sm2 hrU | exact bfit_st2 rfl rfl | exact bfit_x rfl rfl | exact bfit_u rfl | exact bfit_g (scs_rens ..)
    · exact uniq_nodup (by decide)
    · simp only [go_sem, rr19, ren, rens, gmap]
  · have f0 : (N = 0) = False := eq_false hN0
    have hp1 : 0 < N := by omega
    rw [db_pos hp1, db_pos hp1, db_pos hp1, dv_pos hp1, dv_pos hp1, dv_pos hp1] at hQ
    refine run_driveS 80 ?_
    simp only [go_sem, v19, v19_0]
    refine run_drw (by kernel_rfl) ?_
    refine drun_drive 40 (p := (_, _)) ?_
    simp only [go_sem, v19_1, e0, e1, e2, scs_tkr, look_ro, restore, Option.join_some, maskH, List.mapIdx_cons, List.mapIdx_nil, List.contains_cons, List.contains_nil, Bool.or_false, Bool.or_true, Bool.false_or, Bool.true_or, Nat.reduceBEq]
    refine drun_end ?_
    refine run_driveS 80 ?_
    simp only [go_sem]
    refine run_drw (by kernel_rfl) ?_
    refine drun_drive 40 (p := (_, _)) ?_
    simp only [go_sem, v19_2, f0, f1, f2, scs_tkr, look_ro, restore, Option.join_some, maskH, List.mapIdx_cons, List.mapIdx_nil, List.contains_cons, List.contains_nil, Bool.or_false, Bool.or_true, Bool.false_or, Bool.true_or, Nat.reduceBEq]
    refine drun_end ?_
    refine run_driveS 80 ?_
    simp only [go_sem, v19_3, v19_4, f0, f1, f2, scs_tkr, look_ro]
    rw [st_t9, st_d10, st_ap]
    refine run_ret_drop Tryz.func19 res19 [0, 1, 2, 3, 4, 5, 6, 7, 8, 9, 10, 11, 12] (.fn (.func 28) [] [.ptr 5 0, .ptr 6 0, .ptr 7 0]) _ rfl (by simp) ?_ ?_ ?_ hQ
    · refine hfit_cons rfl ?_ (hfit_cons rfl ?_ (hfit_cons rfl ?_ (hfit_cons rfl ?_ (hfit_cons rfl ?_ (hfit_cons rfl ?_ (hfit_cons rfl ?_ (hfit_cons rfl ?_ (hfit_cons rfl ?_ (hfit_cons rfl ?_ (hfit_cons rfl ?_ (hfit_cons rfl ?_ (hfit_cons rfl ?_ hfit_nil))))))))))))
      all_goals first | trivial | exact bfit_sm2 hrG | exact bfit_sm2 hrH | exact bfit_sm2 hrL | exact bfit_sm2 hrR | exact bfit_sm2 hrU | exact bfit_st2 rfl rfl | exact bfit_x rfl rfl | exact bfit_u rfl | exact bfit_g (scs_rens ..) | (simp only [go_sem, bfit, lc_fit, scs_fit, fit, ren, gmap, lw_plain, true_or, or_true])
    · exact uniq_nodup (by decide)
    · simp only [go_sem, rr19, ren, rens, gmap]
end
end Go.Vs.Tryz
namespace Go.Vs.Tryz
open Go.Proofs
variable {G : Nat → List V}
set_option linter.unusedSimpArgs false
attribute [local go_sem] lenO_nils lenO_sl sliceAtV Int.sub_zero List.length_append List.all_append ge_iff_le gt_iff_lt Int.natCast_nonneg Int.toNat_natCast Nat.mul_one b_and_ll b_shr_ll b_mul_ll b_add_ll b_or_ll b_shl_ll pick_ll pick_lc pick_bb driveS stopV Option.isSome_some Option.isSome_none Kind.m Kind.w Kind.g look_ro look_rw look_grow drive stepV exo expo evs fillV isNil nilKind eqV eqL optA optM sliceAtV ev kn ldc stc splice appV srcV lenV setd wantV exitV rvs rv one List.length_cons List.length_nil List.cons_append List.nil_append List.append_nil List.replicate List.getD_cons_zero List.getD_cons_succ List.set_cons_zero List.set_cons_succ List.getElem?_cons_zero List.getElem?_cons_succ List.getElem?_nil List.take_succ_cons List.take_zero List.take_nil List.drop_succ_cons List.drop_zero List.drop_nil List.all_cons List.all_nil List.any_cons List.any_nil Bool.and_true Bool.true_and Bool.and_self Option.map_some Option.map_none Option.bind_some Option.some.injEq Nat.add_zero Nat.zero_add Int.toNat_zero Int.toNat_one Int.zero_add Int.add_zero if_true if_false ite_true ite_false and_true true_and and_self ne_eq not_false_eq_true not_true_eq_false decide_true decide_false Bool.false_eq_true Bool.not_true Bool.not_false beq_self_eq_true BEq.rfl Bool.not_eq_true Nat.le_refl Int.le_refl Nat.zero_le List.foldl List.map_cons List.map_nil Prod.mk.injEq Int.cast_ofNat_Int Int.zero_le_ofNat b_add_cc b_add_cl b_add_lc b_mul_cc b_mul_cl b_mul_lc b_sub_cc b_sub_cl b_sub_lc b_and_cc b_and_cl b_and_lc b_or_cc b_or_cl b_or_lc b_xor_cc b_xor_cl b_xor_lc b_andNot_cc b_andNot_cl b_andNot_lc b_shr_cc b_shr_cl b_shr_lc b_shl_cc b_shl_cl b_shl_lc b_lss b_leq b_gtr b_geq b_add_i b_sub_i b_mul_i beq_cc beq_cl beq_lc beq_ll b_quo_i b_rem_i neg_u64 wrap_i64 driveD stepD idsAt idOf maskH_nil restore_nil restore_mask List.filterMap_nil List.filterMap_cons VOp.looks VOp.makes exA cells_agg cells_int cells_bool cells_str cells_nilp cells_ptr cells_glob cells_nils cells_sl cells_nilf cells_fn cells_nili cells_ifc known_agg known_tup known_int known_bool known_str known_nilp known_ptr known_glob known_nils known_sl known_nilf known_fn known_nili known_ifc known_unk one_agg one_tup one_int one_bool one_str one_nilp one_ptr one_glob one_nils one_sl one_nilf one_fn one_nili one_ifc asK_int asN_int asB_bool asS_str asG_agg asT_tup
attribute [local go_sem_proc] Nat.reduceAdd Nat.reduceSub Nat.reduceLeDiff Nat.reduceMul Nat.reduceLT Nat.reduceEqDiff Int.reduceLT Int.reduceLE Int.reduceAdd Int.reduceSub Int.reduceMul Int.reduceToNat reduceIte reduceCtorEq Nat.reduceBEq
attribute [local go_sem ↓] lc_len lc_take lc_drop lc_known lc_one lc_rens lc_cells lw_known lw_agg lw_asG scs_known scs_one scs_len
attribute [local go_sem] lt_nat lt_natl lt_lnat lt_ll bool_tf bool_ft
attribute [local go_sem ↓] ecs_len ecs_take ecs_drop ecs_known ecs_one ecs_rens ecs_fit ecs_cells ew_known ew_agg ew_asG ecs_kind ecs_k ecs_l ers_known ers_one ers_len ers_rens ers_fit
set_option maxRecDepth 100000
set_option maxHeartbeats 1000000
attribute [local go_sem ↓] ivl_known ivl_one lc_take_add lc_drop_add ecs_take_add ecs_drop_add de_known de_one
theorem argument (l r : Nat → Nat) (hl : ∀ j, l j < 115792089237316195423570985008687907853269984665640564039457584007913129639936) (hr : ∀ j, r j < 115792089237316195423570985008687907853269984665640564039457584007913129639936) (Q' P ea eb' nG mG nH mH nA mA nB mB nL mL nR mR nU mU : Nat) (zG zH zA zB zL zR zU : Bool) (hL : Ok nL mL zL) (hR : Ok nR mR zR) (hA : ea < 115792089237316195423570985008687907853269984665640564039457584007913129639936) (hB : eb' < 115792089237316195423570985008687907853269984665640564039457584007913129639936) (sc lab : V) (hsk : sc.known = true) (hlk : lab.known = true) (N : Int) (Q : V → Heap → Prop)
    (hQ : Q (.tup [arL (.sl 7 0 (min nL 2100) (.exact (min nL 2100 + 1))) (.sl 8 0 (min nR 2100) (.exact (min nR 2100 + 1))) ea eb', arE (de 9 (min nL 2100)) (de 10 (min nR 2100)) (ea % ell) (eb' % ell)])
      [none, none, none, none, ivb l nL zL, ivb r nR zR, none, some ⟨.ro, scs (min nL 2100) l ++ lc 77⟩, some ⟨.ro, scs (min nR 2100) r ++ lc 77⟩, eb (fun j => l j % ell) (min nL 2100), eb (fun j => r j % ell) (min nR 2100)]) :
    VCall Tryz.prog G 5 [.agg (cas Q' P (ivl 0 nG mG zG) (ivl 1 nH mH zH) (ivl 2 nA mA zA) (ivl 3 nB mB zB) (ivl 4 nL mL zL) (ivl 5 nR mR zR) ea eb' sc (ivl 6 nU mU zU) lab (.int .i64 N))] [none, none, none, none, ivb l nL zL, ivb r nR zR, none] Q := by
  have b1 : List.take 4 (lc ea) = lc ea := rfl
  have b2 : List.take 4 (lc eb') = lc eb' := rfl
  have b3 : ∀ r, List.take 4 (lc ea ++ r) = lc ea := fun _ => rfl
  have b4 : ∀ r, List.take 4 (lc eb' ++ r) = lc eb' := fun _ => rfl
  refine vcall_body Tryz.func5 nm5 code5 nt5 ?_
  unfold cas
  refine run_driveS 80 ?_
  simp only [go_sem, v5, v5_0]
  refine run_drw (by kernel_rfl) ?_
  refine drun_drive 40 (p := (_, _)) ?_
  simp only [go_sem, v5_1, hsk, hlk, b1, b2, b3, b4]
  refine drun_call' ?_
  simp only [go_sem, calV, restore, Option.join_some, maskH, List.mapIdx_cons, List.mapIdx_nil, List.contains_cons, List.contains_nil, Bool.or_false, Bool.or_true, Bool.false_or, Bool.true_or, Nat.reduceBEq]
  refine lines_at l nL mL zL hL 4 rfl ?_
  refine drun_drive 40 (p := (_, _)) ?_
  simp only [go_sem, restore, Option.join_some, maskH, List.mapIdx_cons, List.mapIdx_nil, List.contains_cons, List.contains_nil, Bool.or_false, Bool.or_true, Bool.false_or, Bool.true_or, Nat.reduceBEq, b1, b2, b3, b4, de_cells, b1, b2, b3, b4]
  refine drun_call' ?_
  simp only [go_sem, calV, restore, Option.join_some, maskH, List.mapIdx_cons, List.mapIdx_nil, List.contains_cons, List.contains_nil, Bool.or_false, Bool.or_true, Bool.false_or, Bool.true_or, Nat.reduceBEq]
  refine lines_at r nR mR zR hR 5 rfl ?_
  refine drun_drive 40 (p := (_, _)) ?_
  simp only [go_sem, restore, Option.join_some, maskH, List.mapIdx_cons, List.mapIdx_nil, List.contains_cons, List.contains_nil, Bool.or_false, Bool.or_true, Bool.false_or, Bool.true_or, Nat.reduceBEq, b1, b2, b3, b4, de_cells, b1, b2, b3, b4]
  refine drun_call' ?_
  simp only [go_sem, calV, restore, Option.join_some, maskH, List.mapIdx_cons, List.mapIdx_nil, List.contains_cons, List.contains_nil, Bool.or_false, Bool.or_true, Bool.false_or, Bool.true_or, Nat.reduceBEq]
  refine doc_lines_at l hl nL mL zL hL 4 rfl ?_
  refine drun_drive 40 (p := (_, _)) ?_
  simp only [go_sem, restore, Option.join_some, maskH, List.mapIdx_cons, List.mapIdx_nil, List.contains_cons, List.contains_nil, Bool.or_false, Bool.or_true, Bool.false_or, Bool.true_or, Nat.reduceBEq, b1, b2, b3, b4, de_cells, b1, b2, b3, b4]
  refine drun_call' ?_
  simp only [go_sem, calV, restore, Option.join_some, maskH, List.mapIdx_cons, List.mapIdx_nil, List.contains_cons, List.contains_nil, Bool.or_false, Bool.or_true, Bool.false_or, Bool.true_or, Nat.reduceBEq]
  refine doc_lines_at r hr nR mR zR hR 5 rfl ?_
  refine drun_drive 40 (p := (_, _)) ?_
  simp only [go_sem, restore, Option.join_some, maskH, List.mapIdx_cons, List.mapIdx_nil, List.contains_cons, List.contains_nil, Bool.or_false, Bool.or_true, Bool.false_or, Bool.true_or, Nat.reduceBEq, b1, b2, b3, b4, de_cells, b1, b2, b3, b4]
  refine drun_call' ?_
  simp only [go_sem, calV, restore, Option.join_some, maskH, List.mapIdx_cons, List.mapIdx_nil, List.contains_cons, List.contains_nil, Bool.or_false, Bool.or_true, Bool.false_or, Bool.true_or, Nat.reduceBEq]
  refine ref_least ea hA ?_
  refine drun_drive 40 (p := (_, _)) ?_
  simp only [go_sem, restore, Option.join_some, maskH, List.mapIdx_cons, List.mapIdx_nil, List.contains_cons, List.contains_nil, Bool.or_false, Bool.or_true, Bool.false_or, Bool.true_or, Nat.reduceBEq, de_cells, b1, b2, b3, b4]
  refine drun_call' ?_
  simp only [go_sem, calV, restore, Option.join_some, maskH, List.mapIdx_cons, List.mapIdx_nil, List.contains_cons, List.contains_nil, Bool.or_false, Bool.or_true, Bool.false_or, Bool.true_or, Nat.reduceBEq]
  refine ref_least eb' hB ?_
  refine drun_drive 40 (p := (_, _)) ?_
  simp only [go_sem, restore, Option.join_some, maskH, List.mapIdx_cons, List.mapIdx_nil, List.contains_cons, List.contains_nil, Bool.or_false, Bool.or_true, Bool.false_or, Bool.true_or, Nat.reduceBEq, de_cells, b1, b2, b3, b4]
  refine drun_end ?_
  refine run_ret_drop Tryz.func5 res5 [0, 1, 2, 3, 4, 5, 6, 10, 11, 12, 13] _ _ rfl (by simp) ?_ ?_ ?_ hQ
  · exact hfit_cons_none (hfit_cons_none (hfit_cons_none (hfit_cons_none (hfit_cons rfl bfit_ivb (hfit_cons rfl bfit_ivb (hfit_cons_none (hfit_cons rfl bfit_sm (hfit_cons rfl bfit_sm (hfit_cons rfl bfit_eb (hfit_cons rfl bfit_eb hfit_nil))))))))))
  · simp [uniq, wrB_ivb, wrB_eb, wrB]
  · simp only [go_sem, rr5, ren, rens, gmap, de_ren, arL, arE, rens_append, lc_rens, ecs_rens, List.append_assoc]
end Go.Vs.Tryz
namespace Go.Vs.Tryz
open Go.Proofs
variable {G : Nat → List V}
set_option linter.unusedSimpArgs false
attribute [local go_sem] lenO_nils lenO_sl sliceAtV Int.sub_zero List.length_append List.all_append ge_iff_le gt_iff_lt Int.natCast_nonneg Int.toNat_natCast Nat.mul_one b_and_ll b_shr_ll b_mul_ll b_add_ll b_or_ll b_shl_ll pick_ll pick_lc pick_bb driveS stopV Option.isSome_some Option.isSome_none Kind.m Kind.w Kind.g look_ro look_rw look_grow drive stepV exo expo evs fillV isNil nilKind eqV eqL optA optM sliceAtV ev kn ldc stc splice appV srcV lenV setd wantV exitV rvs rv one List.length_cons List.length_nil List.cons_append List.nil_append List.append_nil List.replicate List.getD_cons_zero List.getD_cons_succ List.set_cons_zero List.set_cons_succ List.getElem?_cons_zero List.getElem?_cons_succ List.getElem?_nil List.take_succ_cons List.take_zero List.take_nil List.drop_succ_cons List.drop_zero List.drop_nil List.all_cons List.all_nil List.any_cons List.any_nil Bool.and_true Bool.true_and Bool.and_self Option.map_some Option.map_none Option.bind_some Option.some.injEq Nat.add_zero Nat.zero_add Int.toNat_zero Int.toNat_one Int.zero_add Int.add_zero if_true if_false ite_true ite_false and_true true_and and_self ne_eq not_false_eq_true not_true_eq_false decide_true decide_false Bool.false_eq_true Bool.not_true Bool.not_false beq_self_eq_true BEq.rfl Bool.not_eq_true Nat.le_refl Int.le_refl Nat.zero_le List.foldl List.map_cons List.map_nil Prod.mk.injEq Int.cast_ofNat_Int Int.zero_le_ofNat b_add_cc b_add_cl b_add_lc b_mul_cc b_mul_cl b_mul_lc b_sub_cc b_sub_cl b_sub_lc b_and_cc b_and_cl b_and_lc b_or_cc b_or_cl b_or_lc b_xor_cc b_xor_cl b_xor_lc b_andNot_cc b_andNot_cl b_andNot_lc b_shr_cc b_shr_cl b_shr_lc b_shl_cc b_shl_cl b_shl_lc b_lss b_leq b_gtr b_geq b_add_i b_sub_i b_mul_i beq_cc beq_cl beq_lc beq_ll b_quo_i b_rem_i neg_u64 wrap_i64 driveD stepD idsAt idOf maskH_nil restore_nil restore_mask List.filterMap_nil List.filterMap_cons VOp.looks VOp.makes exA cells_agg cells_int cells_bool cells_str cells_nilp cells_ptr cells_glob cells_nils cells_sl cells_nilf cells_fn cells_nili cells_ifc known_agg known_tup known_int known_bool known_str known_nilp known_ptr known_glob known_nils known_sl known_nilf known_fn known_nili known_ifc known_unk one_agg one_tup one_int one_bool one_str one_nilp one_ptr one_glob one_nils one_sl one_nilf one_fn one_nili one_ifc asK_int asN_int asB_bool asS_str asG_agg asT_tup true_or or_true false_or or_false
attribute [local go_sem ↓] lc_len lc_take lc_drop lc_known lc_one lc_rens lc_cells lw_known lw_agg lw_asG scs_known scs_one scs_len
attribute [local go_sem] lt_nat lt_natl lt_lnat lt_ll
set_option maxRecDepth 100000
set_option maxHeartbeats 1000000
def fl (f : Nat → Nat) (N : Nat) : Nat → Nat := fun j => if j < N then f j else (3 * j + 2) % 18446744073709551616
end Go.Vs.Tryz
namespace Go.Vs.Tryz
instance nzell : NeZero ell := ⟨by decide⟩
def cF (n : Nat) : _root_.Fin ell := _root_.Fin.ofNat ell n
theorem cF_val (n : Nat) : (cF n).val = n % ell := rfl
theorem cF_iff {a b : Nat} : cF a = cF b ↔ a % ell = b % ell := by
  constructor
  · intro h
    have := congrArg _root_.Fin.val h
    rwa [cF_val, cF_val] at this
  · intro h
    apply _root_.Fin.ext
    rw [cF_val, cF_val, h]
theorem cF_mod (a : Nat) : cF (a % ell) = cF a := cF_iff.2 (Nat.mod_mod _ _)
theorem cF_add (a b : Nat) : cF (a + b) = cF a + cF b := by
  apply _root_.Fin.ext
  rw [_root_.Fin.val_add, cF_val, cF_val, cF_val, ← Nat.add_mod]
theorem cF_mul (a b : Nat) : cF (a * b) = cF a * cF b := by
  apply _root_.Fin.ext
  rw [_root_.Fin.val_mul, cF_val, cF_val, cF_val, ← Nat.mul_mod]
theorem cF_zero : cF 0 = 0 := rfl
theorem cF_self : cF ell = 0 := by
  apply _root_.Fin.ext
  rw [cF_val, Nat.mod_self]
  rfl
theorem f_neg {p : Nat} [NeZero p] (x y z : _root_.Fin p) (h : x + y = z) (hz : z = 0) : x = -y := by grind
theorem cF_neg (a : Nat) : cF (ell - a % ell) = - cF a := by
  refine f_neg _ _ (cF ell) ?_ cF_self
  rw [← cF_mod a, ← cF_add]
  congr 1
  have := mod_lt' a
  omega
theorem cF_m1 : cF (ell - 1) = - cF 1 := by
  have := cF_neg 1
  rwa [show 1 % ell = 1 from rfl] at this
theorem cF_one : cF 1 = 1 := rfl
end Go.Vs.Tryz
namespace Go.Vs.Tryz
open Go.Proofs
variable {G : Nat → List V}
set_option linter.unusedSimpArgs false
attribute [local go_sem] lenO_nils lenO_sl sliceAtV Int.sub_zero List.length_append List.all_append ge_iff_le gt_iff_lt Int.natCast_nonneg Int.toNat_natCast Nat.mul_one b_and_ll b_shr_ll b_mul_ll b_add_ll b_or_ll b_shl_ll pick_ll pick_lc pick_bb driveS stopV Option.isSome_some Option.isSome_none Kind.m Kind.w Kind.g look_ro look_rw look_grow drive stepV exo expo evs fillV isNil nilKind eqV eqL optA optM sliceAtV ev kn ldc stc splice appV srcV lenV setd wantV exitV rvs rv one List.length_cons List.length_nil List.cons_append List.nil_append List.append_nil List.replicate List.getD_cons_zero List.getD_cons_succ List.set_cons_zero List.set_cons_succ List.getElem?_cons_zero List.getElem?_cons_succ List.getElem?_nil List.take_succ_cons List.take_zero List.take_nil List.drop_succ_cons List.drop_zero List.drop_nil List.all_cons List.all_nil List.any_cons List.any_nil Bool.and_true Bool.true_and Bool.and_self Option.map_some Option.map_none Option.bind_some Option.some.injEq Nat.add_zero Nat.zero_add Int.toNat_zero Int.toNat_one Int.zero_add Int.add_zero if_true if_false ite_true ite_false and_true true_and and_self ne_eq not_false_eq_true not_true_eq_false decide_true decide_false Bool.false_eq_true Bool.not_true Bool.not_false beq_self_eq_true BEq.rfl Bool.not_eq_true Nat.le_refl Int.le_refl Nat.zero_le List.foldl List.map_cons List.map_nil Prod.mk.injEq Int.cast_ofNat_Int Int.zero_le_ofNat b_add_cc b_add_cl b_add_lc b_mul_cc b_mul_cl b_mul_lc b_sub_cc b_sub_cl b_sub_lc b_and_cc b_and_cl b_and_lc b_or_cc b_or_cl b_or_lc b_xor_cc b_xor_cl b_xor_lc b_andNot_cc b_andNot_cl b_andNot_lc b_shr_cc b_shr_cl b_shr_lc b_shl_cc b_shl_cl b_shl_lc b_lss b_leq b_gtr b_geq b_add_i b_sub_i b_mul_i beq_cc beq_cl beq_lc beq_ll b_quo_i b_rem_i neg_u64 wrap_i64 driveD stepD idsAt idOf maskH_nil restore_nil restore_mask List.filterMap_nil List.filterMap_cons VOp.looks VOp.makes exA cells_agg cells_int cells_bool cells_str cells_nilp cells_ptr cells_glob cells_nils cells_sl cells_nilf cells_fn cells_nili cells_ifc known_agg known_tup known_int known_bool known_str known_nilp known_ptr known_glob known_nils known_sl known_nilf known_fn known_nili known_ifc known_unk one_agg one_tup one_int one_bool one_str one_nilp one_ptr one_glob one_nils one_sl one_nilf one_fn one_nili one_ifc asK_int asN_int asB_bool asS_str asG_agg asT_tup
attribute [local go_sem ↓] lc_len lc_take lc_drop lc_known lc_one lc_rens lc_cells lw_known lw_agg lw_asG scs_known scs_one scs_len
attribute [local go_sem] lt_nat lt_natl lt_lnat lt_ll bool_tf bool_ft
attribute [local go_sem ↓] ecs_len ecs_take ecs_drop ecs_known ecs_one ecs_rens ecs_fit ecs_cells ew_known ew_agg ew_asG ecs_kind ecs_k ecs_l ers_known ers_one ers_len ers_rens ers_fit
set_option maxRecDepth 100000
set_option maxHeartbeats 1000000
def forg : List V → List V → Prop
  | [], [] => True
  | v :: r, u :: s => (v = .unk ∨ v = u) ∧ forg r s
  | _, _ => False
theorem forg_get : ∀ {l m : List V}, forg l m → l.length = m.length ∧ ∀ (i : Nat) v, l[i]? = some v → v ≠ .unk → m[i]? = some v
  | [], [], _ => ⟨rfl, fun i v h => by simp at h⟩
  | v :: r, u :: s, h => by
    obtain ⟨h1, h2⟩ := forg_get h.2
    refine ⟨by simp [h1], fun i x hx hne => ?_⟩
    cases i with
    | zero =>
      obtain rfl : v = x := by simpa using hx
      rcases h.1 with e | e
      · exact absurd e hne
      · simp [e]
    | succ i => exact h2 i x (by simpa using hx) hne
theorem run_tmps {P : Program} {f : FuncId} {n : Nat} {Q : V → Heap → Prop} {k : List TI} {l m : List V} {H : Heap} (ht : forg l m) (h : Run P G f n Q (k, ⟨l, H⟩)) : Run P G f n Q (k, ⟨m, H⟩) := by
  intro ρ₀ h₀ w₀ ρ a w hn hk hsim htr hd
  obtain ⟨e1, e2⟩ := forg_get ht
  exact h ρ₀ h₀ w₀ ρ a w hn hk hsim ⟨by rw [← htr.1]; exact e1, fun t v hv hne => htr.2 t _ (e2 t v hv hne) hne⟩ hd
def trs (m : Nat) (K P : Nat → Nat) : List V := row m fun j => lc (K j) ++ lc (P j)
theorem trs_len (m : Nat) (K P : Nat → Nat) : (trs m K P).length = m * 8 := row_len (s := 8) (e := fun j => lc (K j) ++ lc (P j)) (fun _ => rfl) m
theorem trs_known (m : Nat) (K P : Nat → Nat) : (trs m K P).all V.known = true := row_all (fun _ => rfl) m
attribute [local go_sem ↓] trs_len trs_known
end Go.Vs.Tryz
namespace Go.Vs.Tryz
open Go.Proofs
variable {G : Nat → List V}
set_option linter.unusedSimpArgs false
attribute [local go_sem] lenO_nils lenO_sl sliceAtV Int.sub_zero List.length_append List.all_append ge_iff_le gt_iff_lt Int.natCast_nonneg Int.toNat_natCast Nat.mul_one b_and_ll b_shr_ll b_mul_ll b_add_ll b_or_ll b_shl_ll pick_ll pick_lc pick_bb driveS stopV Option.isSome_some Option.isSome_none Kind.m Kind.w Kind.g look_ro look_rw look_grow drive stepV exo expo evs fillV isNil nilKind eqV eqL optA optM sliceAtV ev kn ldc stc splice appV srcV lenV setd wantV exitV rvs rv one List.length_cons List.length_nil List.cons_append List.nil_append List.append_nil List.replicate List.getD_cons_zero List.getD_cons_succ List.set_cons_zero List.set_cons_succ List.getElem?_cons_zero List.getElem?_cons_succ List.getElem?_nil List.take_succ_cons List.take_zero List.take_nil List.drop_succ_cons List.drop_zero List.drop_nil List.all_cons List.all_nil List.any_cons List.any_nil Bool.and_true Bool.true_and Bool.and_self Option.map_some Option.map_none Option.bind_some Option.some.injEq Nat.add_zero Nat.zero_add Int.toNat_zero Int.toNat_one Int.zero_add Int.add_zero if_true if_false ite_true ite_false and_true true_and and_self ne_eq not_false_eq_true not_true_eq_false decide_true decide_false Bool.false_eq_true Bool.not_true Bool.not_false beq_self_eq_true BEq.rfl Bool.not_eq_true Nat.le_refl Int.le_refl Nat.zero_le List.foldl List.map_cons List.map_nil Prod.mk.injEq Int.cast_ofNat_Int Int.zero_le_ofNat b_add_cc b_add_cl b_add_lc b_mul_cc b_mul_cl b_mul_lc b_sub_cc b_sub_cl b_sub_lc b_and_cc b_and_cl b_and_lc b_or_cc b_or_cl b_or_lc b_xor_cc b_xor_cl b_xor_lc b_andNot_cc b_andNot_cl b_andNot_lc b_shr_cc b_shr_cl b_shr_lc b_shl_cc b_shl_cl b_shl_lc b_lss b_leq b_gtr b_geq b_add_i b_sub_i b_mul_i beq_cc beq_cl beq_lc beq_ll b_quo_i b_rem_i neg_u64 wrap_i64 driveD stepD idsAt idOf maskH_nil restore_nil restore_mask List.filterMap_nil List.filterMap_cons VOp.looks VOp.makes exA cells_agg cells_int cells_bool cells_str cells_nilp cells_ptr cells_glob cells_nils cells_sl cells_nilf cells_fn cells_nili cells_ifc known_agg known_tup known_int known_bool known_str known_nilp known_ptr known_glob known_nils known_sl known_nilf known_fn known_nili known_ifc known_unk one_agg one_tup one_int one_bool one_str one_nilp one_ptr one_glob one_nils one_sl one_nilf one_fn one_nili one_ifc asK_int asN_int asB_bool asS_str asG_agg asT_tup true_or or_true false_or or_false
section
attribute [local go_sem ↓] lc_len lc_take lc_drop lc_known lc_one lc_rens lc_cells lw_known lw_agg lw_asG scs_known scs_one scs_len lc_take_add lc_drop_add lenO_dv dv_known dv_one dv_ren
attribute [local go_sem] lt_nat lt_natl lt_lnat lt_ll bool_tf bool_ft
set_option maxRecDepth 100000
set_option maxHeartbeats 2000000
theorem ivl_pos {i n m : Nat} {z : Bool} (ho : Ok n m z) (h : 0 < n) : ivl i n m z = .sl i 0 n (.exact m) := if_neg (fun e => by have := ho.2 e; omega)
theorem ivb_pos {f : Nat → Nat} {n m : Nat} {z : Bool} (ho : Ok n m z) (h : 0 < n) : ivb f n z = some ⟨.ro, scs n f⟩ := if_neg (fun e => by have := ho.2 e; omega)
theorem lenO_ivl' {i n m : Nat} {z : Bool} (ho : Ok n m z) : lenO (ivl i n m z) = some n := by
  cases z
  · rfl
  · obtain rfl := ho.2 rfl
    rfl
theorem ivl_one' (i n m : Nat) (z : Bool) : (ivl i n m z).one = true := by cases z <;> rfl
attribute [local go_sem] ivl_known ivl_one'
section
variable (u : Nat → Nat) (N m : Nat) (z : Bool) (g0 h0 : V) (B0 B1 : Option Blk)
def kh (us : Nat → Nat) (k : Nat) : Heap := [B0, B1, ivb u N z, db us k]
end
end
section
attribute [local go_sem ↓] lc_len lc_take lc_drop lc_known lc_one lc_rens lc_cells lw_known lw_agg lw_asG scs_known scs_one scs_len lc_take_add lc_drop_add lenO_dv dv_known dv_one dv_ren
attribute [local go_sem] lt_nat lt_natl lt_lnat lt_ll bool_tf bool_ft
set_option maxRecDepth 100000
set_option maxHeartbeats 2000000
section
variable (us g h Lf Rf : Nat → Nat) (N P Q' : Nat)
def B5 (t : Nat) : Option Blk := some ⟨.rw, [.int .i64 t]⟩
noncomputable def Z5 : Nat → Option Blk
  | 0 => none
  | s + 1 => some ⟨.grow, scs (2 ^ (N - s)) (Gs us g N s)⟩
noncomputable def W5 : Nat → Option Blk
  | 0 => none
  | s + 1 => some ⟨.grow, scs (2 ^ (N - s)) (Hs us h N s)⟩
end
end
end Go.Vs.Tryz
namespace Go.Vs.Tryz
open Go.Proofs
variable {G : Nat → List V}
set_option linter.unusedSimpArgs false
attribute [local go_sem] lenO_nils lenO_sl sliceAtV Int.sub_zero List.length_append List.all_append ge_iff_le gt_iff_lt Int.natCast_nonneg Int.toNat_natCast Nat.mul_one b_and_ll b_shr_ll b_mul_ll b_add_ll b_or_ll b_shl_ll pick_ll pick_lc pick_bb driveS stopV Option.isSome_some Option.isSome_none Kind.m Kind.w Kind.g look_ro look_rw look_grow drive stepV exo expo evs fillV isNil nilKind eqV eqL optA optM sliceAtV ev kn ldc stc splice appV srcV lenV setd wantV exitV rvs rv one List.length_cons List.length_nil List.cons_append List.nil_append List.append_nil List.replicate List.getD_cons_zero List.getD_cons_succ List.set_cons_zero List.set_cons_succ List.getElem?_cons_zero List.getElem?_cons_succ List.getElem?_nil List.take_succ_cons List.take_zero List.take_nil List.drop_succ_cons List.drop_zero List.drop_nil List.all_cons List.all_nil List.any_cons List.any_nil Bool.and_true Bool.true_and Bool.and_self Option.map_some Option.map_none Option.bind_some Option.some.injEq Nat.add_zero Nat.zero_add Int.toNat_zero Int.toNat_one Int.zero_add Int.add_zero if_true if_false ite_true ite_false and_true true_and and_self ne_eq not_false_eq_true not_true_eq_false decide_true decide_false Bool.false_eq_true Bool.not_true Bool.not_false beq_self_eq_true BEq.rfl Bool.not_eq_true Nat.le_refl Int.le_refl Nat.zero_le List.foldl List.map_cons List.map_nil Prod.mk.injEq Int.cast_ofNat_Int Int.zero_le_ofNat b_add_cc b_add_cl b_add_lc b_mul_cc b_mul_cl b_mul_lc b_sub_cc b_sub_cl b_sub_lc b_and_cc b_and_cl b_and_lc b_or_cc b_or_cl b_or_lc b_xor_cc b_xor_cl b_xor_lc b_andNot_cc b_andNot_cl b_andNot_lc b_shr_cc b_shr_cl b_shr_lc b_shl_cc b_shl_cl b_shl_lc b_lss b_leq b_gtr b_geq b_add_i b_sub_i b_mul_i beq_cc beq_cl beq_lc beq_ll b_quo_i b_rem_i neg_u64 wrap_i64 driveD stepD idsAt idOf maskH_nil restore_nil restore_mask List.filterMap_nil List.filterMap_cons VOp.looks VOp.makes exA cells_agg cells_int cells_bool cells_str cells_nilp cells_ptr cells_glob cells_nils cells_sl cells_nilf cells_fn cells_nili cells_ifc known_agg known_tup known_int known_bool known_str known_nilp known_ptr known_glob known_nils known_sl known_nilf known_fn known_nili known_ifc known_unk one_agg one_tup one_int one_bool one_str one_nilp one_ptr one_glob one_nils one_sl one_nilf one_fn one_nili one_ifc asK_int asN_int asB_bool asS_str asG_agg asT_tup
attribute [local go_sem ↓] lc_len lc_take lc_drop lc_known lc_one lc_rens lc_cells lw_known lw_agg lw_asG scs_known scs_one scs_len
attribute [local go_sem] lt_nat lt_natl lt_lnat lt_ll bool_tf bool_ft
attribute [local go_sem ↓] ecs_len ecs_take ecs_drop ecs_known ecs_one ecs_rens ecs_fit ecs_cells ew_known ew_agg ew_asG ecs_kind ecs_k ecs_l ers_known ers_one ers_len ers_rens ers_fit
set_option maxRecDepth 100000
set_option maxHeartbeats 1000000
attribute [local go_sem ↓] ivl_known ivl_one lc_take_add lc_drop_add ecs_take_add ecs_drop_add lenO_de lenO_dv de_known dv_known de_one dv_one de_ren dv_ren
attribute [local go_sem ↓] trs_len trs_known
theorem eb_map (f : Nat → Nat) (n : Nat) (g : Nat → Nat) : (eb f n).map (renB g) = eb f n := by
  unfold eb
  split
  · rfl
  · simp only [Option.map_some, renB, ers_rens]
theorem scalars_at (f : Nat → Nat) (n m : Nat) (z : Bool) (hok : Ok n m z) (p : Nat) {h : Heap} (hp : h[p]? = some (ivb f n z)) (n' : Nat) (hn' : n' = min n 2100) {R : V → Heap → Prop} (hR : R (.sl h.length 0 n' (.exact (n' + 1))) (h ++ [some ⟨.rw, scs n' f ++ lc 78⟩])) : VCall Tryz.prog G 6 [ivl p n m z] h R := by
  refine vcall_at (scalars f n n' (ivl 0 n m z) (ivb f n z) (In_iv hok) hn' (fun v k => v = .sl 1 0 n' (.exact (n' + 1)) ∧ k = [ivb f n z, some ⟨.rw, scs n' f ++ lc 78⟩]) ⟨rfl, rfl⟩) [p] ?_ (hfit_one hp) ?_ ?_ ?_
  · intro i hi
    obtain rfl : i = p := by simpa using hi
    exact (List.getElem?_eq_some_iff.1 hp).1
  · simp [uniq]
  · simp only [rens, ivl_ren, gmap]
  · rintro v k ⟨rfl, rfl⟩
    rw [puts_ro (by simp [wrB_ivb]) rfl (by simp)]
    simpa [ren, gmap, renB, rens_append, scs_rens, lc_rens] using hR
theorem db_map (f : Nat → Nat) (n : Nat) (g : Nat → Nat) : (db f n).map (renB g) = db f n := by
  unfold db
  split
  · rfl
  · simp only [Option.map_some, renB, scs_rens]
theorem doc_scalars_at (f : Nat → Nat) (hf : ∀ j, f j < 115792089237316195423570985008687907853269984665640564039457584007913129639936) (n m : Nat) (z : Bool) (hok : Ok n m z) (p : Nat) {h : Heap} (hp : h[p]? = some (ivb f n z)) (n' : Nat) (hn' : n' = min n 2100) {R : V → Heap → Prop} (hR : R (dv h.length n') (h ++ [db (fun j => f j % ell) n'])) : VCall Tryz.prog G 9 [ivl p n m z] h R := by
  refine vcall_at (doc_scalars f hf n n' (ivl 0 n m z) (ivb f n z) (In_iv hok) hn' (fun v k => v = dv 1 n' ∧ k = [ivb f n z, db (fun j => f j % ell) n']) ⟨rfl, rfl⟩) [p] ?_ (hfit_one hp) ?_ ?_ ?_
  · intro i hi
    obtain rfl : i = p := by simpa using hi
    exact (List.getElem?_eq_some_iff.1 hp).1
  · simp [uniq]
  · simp only [rens, ivl_ren, gmap]
  · rintro v k ⟨rfl, rfl⟩
    rw [puts_ro (by simp [wrB_ivb]) rfl (by simp)]
    have e : ren (gmap [p] h.length) (dv 1 n') = dv h.length n' := by rw [dv_ren]; rfl
    rw [e]
    simpa [db_map] using hR
theorem bfit_db {g f : Nat → Nat} {n : Nat} : bfit g (rob f n) (db f n) := by
  unfold rob db
  split
  · trivial
  · exact bfit_same (scs_rens ..)
theorem wrB_ro (c : List V) : wrB (some ⟨.ro, c⟩) = false := rfl
end Go.Vs.Tryz
namespace Go.Vs.Tryz
open Go.Proofs
variable {G : Nat → List V}
set_option linter.unusedSimpArgs false
attribute [local go_sem] lenO_nils lenO_sl sliceAtV Int.sub_zero List.length_append List.all_append ge_iff_le gt_iff_lt Int.natCast_nonneg Int.toNat_natCast Nat.mul_one b_and_ll b_shr_ll b_mul_ll b_add_ll b_or_ll b_shl_ll pick_ll pick_lc pick_bb driveS stopV Option.isSome_some Option.isSome_none Kind.m Kind.w Kind.g look_ro look_rw look_grow drive stepV exo expo evs fillV isNil nilKind eqV eqL optA optM sliceAtV ev kn ldc stc splice appV srcV lenV setd wantV exitV rvs rv one List.length_cons List.length_nil List.cons_append List.nil_append List.append_nil List.replicate List.getD_cons_zero List.getD_cons_succ List.set_cons_zero List.set_cons_succ List.getElem?_cons_zero List.getElem?_cons_succ List.getElem?_nil List.take_succ_cons List.take_zero List.take_nil List.drop_succ_cons List.drop_zero List.drop_nil List.all_cons List.all_nil List.any_cons List.any_nil Bool.and_true Bool.true_and Bool.and_self Option.map_some Option.map_none Option.bind_some Option.some.injEq Nat.add_zero Nat.zero_add Int.toNat_zero Int.toNat_one Int.zero_add Int.add_zero if_true if_false ite_true ite_false and_true true_and and_self ne_eq not_false_eq_true not_true_eq_false decide_true decide_false Bool.false_eq_true Bool.not_true Bool.not_false beq_self_eq_true BEq.rfl Bool.not_eq_true Nat.le_refl Int.le_refl Nat.zero_le List.foldl List.map_cons List.map_nil Prod.mk.injEq Int.cast_ofNat_Int Int.zero_le_ofNat b_add_cc b_add_cl b_add_lc b_mul_cc b_mul_cl b_mul_lc b_sub_cc b_sub_cl b_sub_lc b_and_cc b_and_cl b_and_lc b_or_cc b_or_cl b_or_lc b_xor_cc b_xor_cl b_xor_lc b_andNot_cc b_andNot_cl b_andNot_lc b_shr_cc b_shr_cl b_shr_lc b_shl_cc b_shl_cl b_shl_lc b_lss b_leq b_gtr b_geq b_add_i b_sub_i b_mul_i beq_cc beq_cl beq_lc beq_ll b_quo_i b_rem_i neg_u64 wrap_i64 driveD stepD idsAt idOf maskH_nil restore_nil restore_mask List.filterMap_nil List.filterMap_cons VOp.looks VOp.makes exA cells_agg cells_int cells_bool cells_str cells_nilp cells_ptr cells_glob cells_nils cells_sl cells_nilf cells_fn cells_nili cells_ifc known_agg known_tup known_int known_bool known_str known_nilp known_ptr known_glob known_nils known_sl known_nilf known_fn known_nili known_ifc known_unk one_agg one_tup one_int one_bool one_str one_nilp one_ptr one_glob one_nils one_sl one_nilf one_fn one_nili one_ifc asK_int asN_int asB_bool asS_str asG_agg asT_tup true_or or_true false_or or_false
attribute [local go_sem_proc] Nat.reduceAdd Nat.reduceSub Nat.reduceLeDiff Nat.reduceMul Nat.reduceLT Nat.reduceEqDiff Int.reduceLT Int.reduceLE Int.reduceAdd Int.reduceSub Int.reduceMul Int.reduceToNat reduceIte reduceCtorEq Nat.reduceBEq
section
attribute [local go_sem ↓] lc_len lc_take lc_drop lc_known lc_one lc_rens lc_cells lw_known lw_agg lw_asG scs_known scs_one scs_len lc_take_add lc_drop_add lenO_dv dv_known dv_one dv_ren
attribute [local go_sem] lt_nat lt_natl lt_lnat lt_ll bool_tf bool_ft
set_option maxRecDepth 100000
set_option maxHeartbeats 2000000
section
variable (n : Nat) (w a b : Nat → Nat) (B0 B1 B2 B3 B6 B7 B8 B9 B10 B11 B12 B13 B14 B15 B16 B17 B18 B19 B20 B21 B22 B23 : Option Blk)
end
theorem same_ (hG : G 0 = tbl) (A B : Nat) (hA : A < 115792089237316195423570985008687907853269984665640564039457584007913129639936) (hB : B < 115792089237316195423570985008687907853269984665640564039457584007913129639936) {h : Heap} {R : V → Heap → Prop} (hQ : R (.bool (decide (A % ell = B % ell))) h) : VCall Tryz.prog G 157 [lw A, lw B] h R := by
  refine vcall_plain (Q := fun v => v = .bool (decide (A % ell = B % ell))) ?_ (fun g => by simp only [rens, lw_plain, ew_plain, ren]) (fun v g hv => by subst hv; exact rfl) (fun v hv => by subst hv; exact hQ)
  refine vcall_body Tryz.func157 nm157 code157 nt157 ?_
  have q := lc_eqL (mod_lt A) (mod_lt B)
  refine run_driveS 80 ?_
  simp only [go_sem, v157, v157_0]
  refine run_drw (by kernel_rfl) ?_
  refine drun_drive 40 (p := (_, _)) ?_
  simp only [go_sem, v157_1, restore, Option.join_some, maskH, List.mapIdx_cons, List.mapIdx_nil, List.contains_cons, List.contains_nil, Bool.or_false, Bool.or_true, Bool.false_or, Bool.true_or, Nat.reduceBEq]
  refine drun_call' ?_
  simp only [go_sem, calV, restore, Option.join_some, maskH, List.mapIdx_cons, List.mapIdx_nil, List.contains_cons, List.contains_nil, Bool.or_false, Bool.or_true, Bool.false_or, Bool.true_or, Nat.reduceBEq]
  refine least' hG A hA ?_
  refine drun_drive 40 (p := (_, _)) ?_
  simp only [go_sem, restore, Option.join_some, maskH, List.mapIdx_cons, List.mapIdx_nil, List.contains_cons, List.contains_nil, Bool.or_false, Bool.or_true, Bool.false_or, Bool.true_or, Nat.reduceBEq]
  refine drun_call' ?_
  simp only [go_sem, calV, restore, Option.join_some, maskH, List.mapIdx_cons, List.mapIdx_nil, List.contains_cons, List.contains_nil, Bool.or_false, Bool.or_true, Bool.false_or, Bool.true_or, Nat.reduceBEq]
  refine least' hG B hB ?_
  refine drun_drive 40 (p := (_, _)) ?_
  simp only [go_sem, q, restore, Option.join_some, maskH, List.mapIdx_cons, List.mapIdx_nil, List.contains_cons, List.contains_nil, Bool.or_false, Bool.or_true, Bool.false_or, Bool.true_or, Nat.reduceBEq]
  refine drun_end ?_
  refine run_driveS 80 ?_
  simp only [go_sem]
  refine run_ret_drop Tryz.func157 res157 [] (.bool (decide (A % ell = B % ell))) [] rfl (by simp) trivial (by simp [uniq]) ?_ ⟨rfl, rfl⟩
  simp only [go_sem, rr157, lw_plain, ew_plain, ren]
end
section
attribute [local go_sem ↓] lc_len lc_take lc_drop lc_known lc_one lc_rens lc_cells lw_known lw_agg lw_asG scs_known scs_one scs_len lc_take_add lc_drop_add
attribute [local go_sem] lt_nat lt_natl lt_lnat lt_ll bool_tf bool_ft
set_option maxRecDepth 100000
set_option maxHeartbeats 1000000
theorem m_same : methV Tryz.prog 29 "Same" = some 160 := by kernel_rfl
theorem m_add27 : methV Tryz.prog 27 "Add" = some 156 := by kernel_rfl
theorem line_same (hG : G 0 = tbl) (A B : Nat) (hA : A < 115792089237316195423570985008687907853269984665640564039457584007913129639936) (hB : B < 115792089237316195423570985008687907853269984665640564039457584007913129639936) {h : Heap} {R : V → Heap → Prop} (hQ : R (.bool (decide (A % ell = B % ell))) h) : VCall Tryz.prog G 160 [lw A, lw B] h R := by
  refine vcall_plain (Q := fun v => v = .bool (decide (A % ell = B % ell))) ?_ (fun g => by simp only [rens, lw_plain, ew_plain, ren]) (fun v g hv => by subst hv; exact rfl) (fun v hv => by subst hv; exact hQ)
  refine vcall_body Tryz.func160 nm160 code160 nt160 ?_
  refine run_driveS 80 ?_
  simp only [go_sem, v160, v160_0, v160_1]
  refine run_call' rfl ?_
  simp only [go_sem, calV]
  refine same_ hG _ _ hA hB ?_
  refine run_driveS 80 ?_
  simp only [go_sem]
  refine run_ret_drop Tryz.func160 res160 [] (.bool (decide (A % ell = B % ell))) [] rfl (by simp) trivial (by simp [uniq]) ?_ ⟨rfl, rfl⟩
  simp only [go_sem, rr160, lw_plain, ew_plain, ren]
theorem inner1 (hG : G 0 = tbl) (a b : Nat) (ha : a < 115792089237316195423570985008687907853269984665640564039457584007913129639936) (hb : b < 115792089237316195423570985008687907853269984665640564039457584007913129639936) (Q : V → Heap → Prop) (hQ : Q (.tup [lw (a * b % ell), .int .i64 0]) [some ⟨.ro, lc a⟩, some ⟨.ro, lc b⟩]) : VCall Tryz.prog G 30 [.sl 0 0 1 (.exact 1), .sl 1 0 1 (.exact 1)] [some ⟨.ro, lc a⟩, some ⟨.ro, lc b⟩] Q := by
  have hz0 : [V.int .u64 (nl 0), .int .u64 (nl 0), .int .u64 (nl 0), .int .u64 (nl 0)] = lc 0 := rfl
  have e : (0 + a * b % ell) % ell = a * b % ell := by rw [Nat.zero_add, Nat.mod_mod]
  refine vcall_body Tryz.func30 nm30 code30 nt30 ?_
  refine run_driveS 80 ?_
  simp only [go_sem, v30, v30_0, v30_1, v30_2, hz0]
  refine run_cond_f (by rfl) ?_
  refine run_driveS 80 ?_
  simp only [go_sem, v30_4, v30_11]
  refine run_loop_eq v30_10.eq_1 ?_
  refine run_driveS 80 ?_
  simp only [go_sem, v30_5, v30_8, v30_6, hz0]
  refine run_drw (by kernel_rfl) ?_
  refine drun_drive 40 (p := (_, _)) ?_
  simp only [go_sem, v30_7, restore, Option.join_some, maskH, List.mapIdx_cons, List.mapIdx_nil, List.contains_cons, List.contains_nil, Bool.or_false, Bool.or_true, Bool.false_or, Bool.true_or, Nat.reduceBEq]
  refine drun_call' ?_
  simp only [go_sem, calV, m_mul, restore, Option.join_some, maskH, List.mapIdx_cons, List.mapIdx_nil, List.contains_cons, List.contains_nil, Bool.or_false, Bool.or_true, Bool.false_or, Bool.true_or, Nat.reduceBEq]
  refine mul' hG _ _ ha hb ?_
  refine drun_drive 40 (p := (_, _)) ?_
  simp only [go_sem, restore, Option.join_some, maskH, List.mapIdx_cons, List.mapIdx_nil, List.contains_cons, List.contains_nil, Bool.or_false, Bool.or_true, Bool.false_or, Bool.true_or, Nat.reduceBEq]
  refine drun_call' ?_
  simp only [go_sem, calV, m_add27, restore, Option.join_some, maskH, List.mapIdx_cons, List.mapIdx_nil, List.contains_cons, List.contains_nil, Bool.or_false, Bool.or_true, Bool.false_or, Bool.true_or, Nat.reduceBEq]
  refine add_ hG _ _ (by decide) (mod_lt _) ?_
  rw [e]
  refine drun_drive 40 (p := (_, _)) ?_
  simp only [go_sem, restore, Option.join_some, maskH, List.mapIdx_cons, List.mapIdx_nil, List.contains_cons, List.contains_nil, Bool.or_false, Bool.or_true, Bool.false_or, Bool.true_or, Nat.reduceBEq]
  refine drun_end ?_
  refine run_driveS 80 ?_
  simp only [go_sem, v30_9]
  refine run_loop_eq v30_10.eq_1 ?_
  refine run_driveS 80 ?_
  simp only [go_sem, v30_5]
  refine run_exit rfl ?_
  refine run_driveS 80 ?_
  simp only [go_sem, v30_12]
  refine run_ret_drop Tryz.func30 res30 [0, 1] (.tup [lw (a * b % ell), .int .i64 0]) _ rfl (by simp) ?_ ?_ ?_ hQ
  · simp only [go_sem, hfit, lc_fit, scs_fit, fit, ren, gmap, lw_plain, true_or, or_true]
  · simp [uniq, wrB]
  · simp only [go_sem, rr30, ren, rens, gmap, lw_plain]
end
section
attribute [local go_sem ↓] lc_len lc_take lc_drop lc_known lc_one lc_rens lc_cells lw_known lw_agg lw_asG scs_known scs_one scs_len lc_take_add lc_drop_add
attribute [local go_sem] lt_nat lt_natl lt_lnat lt_ll bool_tf bool_ft
set_option maxRecDepth 100000
set_option maxHeartbeats 1000000
theorem bt8 (a b : Nat) (r : List V) : List.take 8 (lc a ++ lc b ++ r) = lc a ++ lc b := rfl
theorem bd16 (a b : Nat) (x0 x1 x2 x3 x4 x5 x6 x7 : V) : List.drop 16 (lc a ++ lc b ++ [x0, x1, x2, x3, x4, x5, x6, x7]) = [] := rfl
theorem bt16 (a b c d : Nat) (r : List V) : List.take 16 (lc a ++ lc b ++ (lc c ++ lc d) ++ r) = lc a ++ lc b ++ (lc c ++ lc d) := rfl
theorem bt16' (a b c d : Nat) : List.take 16 (lc a ++ lc b ++ (lc c ++ lc d)) = lc a ++ lc b ++ (lc c ++ lc d) := rfl
theorem plain3 (hG : G 0 = tbl) (q g h a b c : Nat) (hq : q < 115792089237316195423570985008687907853269984665640564039457584007913129639936) (hg : g < 115792089237316195423570985008687907853269984665640564039457584007913129639936) (hh : h < 115792089237316195423570985008687907853269984665640564039457584007913129639936) (ha : a < 115792089237316195423570985008687907853269984665640564039457584007913129639936) (hb : b < 115792089237316195423570985008687907853269984665640564039457584007913129639936) (hc : c < 115792089237316195423570985008687907853269984665640564039457584007913129639936) (cc : Cap) (Q : V → Heap → Prop) (hQ : Q (lw (((q * c % ell + g * a % ell) % ell + h * b % ell) % ell)) [some ⟨.ro, lc c ++ lc q ++ (lc a ++ lc g ++ (lc b ++ lc h))⟩]) :
    VCall Tryz.prog G 46 [.sl 0 0 3 cc] [some ⟨.ro, lc c ++ lc q ++ (lc a ++ lc g ++ (lc b ++ lc h))⟩] Q := by
  have hz0 : [V.int .u64 (nl 0), .int .u64 (nl 0), .int .u64 (nl 0), .int .u64 (nl 0)] = lc 0 := rfl
  have p1 : ∀ a b c d r, List.take 8 (List.drop 8 (lc a ++ lc b ++ (lc c ++ lc d ++ r))) = lc c ++ lc d := fun _ _ _ _ _ => rfl
  have p2 : ∀ a b c d e f, List.take 8 (List.drop 16 (lc a ++ lc b ++ (lc c ++ lc d ++ (lc e ++ lc f)))) = lc e ++ lc f := fun _ _ _ _ _ _ => rfl
  have q4 : ∀ a b, List.take 4 (List.drop 4 (lc a ++ lc b)) = lc b := fun _ _ => rfl
  have q0 : ∀ a b, List.take 4 (lc a ++ lc b) = lc a := fun _ _ => rfl
  have e : (0 + q * c % ell) % ell = q * c % ell := by rw [Nat.zero_add, Nat.mod_mod]
  refine vcall_body Tryz.func46 nm46 code46 nt46 ?_
  refine run_driveS 80 ?_
  simp only [go_sem, v46, v46_0, v46_1, v46_2, v46_9, hz0]
  refine run_loop_eq v46_8.eq_1 ?_
  refine run_driveS 80 ?_
  simp only [go_sem, v46_3, v46_6, v46_4, hz0, bt8, p1, p2, q4]
  refine run_drw (by kernel_rfl) ?_
  refine drun_drive 40 (p := (_, _)) ?_
  simp only [go_sem, v46_5, bt8, p1, p2, q4, q0, restore, Option.join_some, maskH, List.mapIdx_cons, List.mapIdx_nil, List.contains_cons, List.contains_nil, Bool.or_false, Bool.or_true, Bool.false_or, Bool.true_or, Nat.reduceBEq]
  refine drun_call' ?_
  simp only [go_sem, calV, m_times, restore, Option.join_some, maskH, List.mapIdx_cons, List.mapIdx_nil, List.contains_cons, List.contains_nil, Bool.or_false, Bool.or_true, Bool.false_or, Bool.true_or, Nat.reduceBEq]
  refine line_times hG _ _ hq hc ?_
  refine drun_drive 40 (p := (_, _)) ?_
  simp only [go_sem, restore, Option.join_some, maskH, List.mapIdx_cons, List.mapIdx_nil, List.contains_cons, List.contains_nil, Bool.or_false, Bool.or_true, Bool.false_or, Bool.true_or, Nat.reduceBEq]
  refine drun_call' ?_
  simp only [go_sem, calV, m_add, restore, Option.join_some, maskH, List.mapIdx_cons, List.mapIdx_nil, List.contains_cons, List.contains_nil, Bool.or_false, Bool.or_true, Bool.false_or, Bool.true_or, Nat.reduceBEq]
  refine line_add hG _ _ (by decide) (mod_lt _) ?_
  rw [e]
  refine drun_drive 40 (p := (_, _)) ?_
  simp only [go_sem, restore, Option.join_some, maskH, List.mapIdx_cons, List.mapIdx_nil, List.contains_cons, List.contains_nil, Bool.or_false, Bool.or_true, Bool.false_or, Bool.true_or, Nat.reduceBEq]
  refine drun_end ?_
  refine run_driveS 80 ?_
  simp only [go_sem, v46_7]
  refine run_loop_eq v46_8.eq_1 ?_
  refine run_driveS 80 ?_
  simp only [go_sem, v46_3, v46_6, v46_4, hz0, bt8, p1, p2, q4]
  refine run_drw (by kernel_rfl) ?_
  refine drun_drive 40 (p := (_, _)) ?_
  simp only [go_sem, v46_5, bt8, p1, p2, q4, q0, restore, Option.join_some, maskH, List.mapIdx_cons, List.mapIdx_nil, List.contains_cons, List.contains_nil, Bool.or_false, Bool.or_true, Bool.false_or, Bool.true_or, Nat.reduceBEq]
  refine drun_call' ?_
  simp only [go_sem, calV, m_times, restore, Option.join_some, maskH, List.mapIdx_cons, List.mapIdx_nil, List.contains_cons, List.contains_nil, Bool.or_false, Bool.or_true, Bool.false_or, Bool.true_or, Nat.reduceBEq]
  refine line_times hG _ _ hg ha ?_
  refine drun_drive 40 (p := (_, _)) ?_
  simp only [go_sem, restore, Option.join_some, maskH, List.mapIdx_cons, List.mapIdx_nil, List.contains_cons, List.contains_nil, Bool.or_false, Bool.or_true, Bool.false_or, Bool.true_or, Nat.reduceBEq]
  refine drun_call' ?_
  simp only [go_sem, calV, m_add, restore, Option.join_some, maskH, List.mapIdx_cons, List.mapIdx_nil, List.contains_cons, List.contains_nil, Bool.or_false, Bool.or_true, Bool.false_or, Bool.true_or, Nat.reduceBEq]
  refine line_add hG _ _ (mod_lt _) (mod_lt _) ?_
  refine drun_drive 40 (p := (_, _)) ?_
  simp only [go_sem, restore, Option.join_some, maskH, List.mapIdx_cons, List.mapIdx_nil, List.contains_cons, List.contains_nil, Bool.or_false, Bool.or_true, Bool.false_or, Bool.true_or, Nat.reduceBEq]
  refine drun_end ?_
  refine run_driveS 80 ?_
  simp only [go_sem, v46_7]
  refine run_loop_eq v46_8.eq_1 ?_
  refine run_driveS 80 ?_
  simp only [go_sem, v46_3, v46_6, v46_4, hz0, bt8, p1, p2, q4]
  refine run_drw (by kernel_rfl) ?_
  refine drun_drive 40 (p := (_, _)) ?_
  simp only [go_sem, v46_5, bt8, p1, p2, q4, q0, restore, Option.join_some, maskH, List.mapIdx_cons, List.mapIdx_nil, List.contains_cons, List.contains_nil, Bool.or_false, Bool.or_true, Bool.false_or, Bool.true_or, Nat.reduceBEq]
  refine drun_call' ?_
  simp only [go_sem, calV, m_times, restore, Option.join_some, maskH, List.mapIdx_cons, List.mapIdx_nil, List.contains_cons, List.contains_nil, Bool.or_false, Bool.or_true, Bool.false_or, Bool.true_or, Nat.reduceBEq]
  refine line_times hG _ _ hh hb ?_
  refine drun_drive 40 (p := (_, _)) ?_
  simp only [go_sem, restore, Option.join_some, maskH, List.mapIdx_cons, List.mapIdx_nil, List.contains_cons, List.contains_nil, Bool.or_false, Bool.or_true, Bool.false_or, Bool.true_or, Nat.reduceBEq]
  refine drun_call' ?_
  simp only [go_sem, calV, m_add, restore, Option.join_some, maskH, List.mapIdx_cons, List.mapIdx_nil, List.contains_cons, List.contains_nil, Bool.or_false, Bool.or_true, Bool.false_or, Bool.true_or, Nat.reduceBEq]
  refine line_add hG _ _ (mod_lt _) (mod_lt _) ?_
  refine drun_drive 40 (p := (_, _)) ?_
  simp only [go_sem, restore, Option.join_some, maskH, List.mapIdx_cons, List.mapIdx_nil, List.contains_cons, List.contains_nil, Bool.or_false, Bool.or_true, Bool.false_or, Bool.true_or, Nat.reduceBEq]
  refine drun_end ?_
  refine run_driveS 80 ?_
  simp only [go_sem, v46_7]
  refine run_loop_eq v46_8.eq_1 ?_
  refine run_driveS 80 ?_
  simp only [go_sem, v46_3]
  refine run_exit rfl ?_
  refine run_driveS 80 ?_
  simp only [go_sem, v46_10]
  refine run_ret_drop Tryz.func46 res46 [0] (lw (((q * c % ell + g * a % ell) % ell + h * b % ell) % ell)) _ rfl (by simp) ?_ ?_ ?_ hQ
  · exact hfit_cons rfl (bfit_same (by simp only [rens_append, lc_rens])) hfit_nil
  · simp [uniq, wrB]
  · simp only [go_sem, rr46, ren, rens, gmap, lw_plain]
theorem image1 (hG : G 0 = tbl) (q g h a b c : Nat) (hq : q < 115792089237316195423570985008687907853269984665640564039457584007913129639936) (hg : g < 115792089237316195423570985008687907853269984665640564039457584007913129639936) (hh : h < 115792089237316195423570985008687907853269984665640564039457584007913129639936) (ha : a < 115792089237316195423570985008687907853269984665640564039457584007913129639936) (hb : b < 115792089237316195423570985008687907853269984665640564039457584007913129639936) (hc : c < 115792089237316195423570985008687907853269984665640564039457584007913129639936) (c1 c2 : Cap) (Q : V → Heap → Prop) (hQ : Q (lw (((q * c % ell + g * a % ell) % ell + h * b % ell) % ell)) [some ⟨.ro, lc g⟩, some ⟨.ro, lc h⟩, some ⟨.ro, lc a⟩, some ⟨.ro, lc b⟩]) :
    VCall Tryz.prog G 31 [lw q, .sl 0 0 1 c1, .sl 1 0 1 c2, .sl 2 0 1 (.exact 1), .sl 3 0 1 (.exact 1), lw c] [some ⟨.ro, lc g⟩, some ⟨.ro, lc h⟩, some ⟨.ro, lc a⟩, some ⟨.ro, lc b⟩] Q := by
  have hz0 : [V.int .u64 (nl 0), .int .u64 (nl 0), .int .u64 (nl 0), .int .u64 (nl 0)] = lc 0 := rfl
  refine vcall_body Tryz.func31 nm31 code31 nt31 ?_
  refine run_driveS 80 ?_
  simp only [go_sem, v31, v31_0, v31_1, v31_2, v31_9, hz0]
  refine run_loop_eq v31_8.eq_1 ?_
  refine run_driveS 80 ?_
  simp only [go_sem, v31_3, v31_6, v31_4, hz0]
  refine run_drw (by kernel_rfl) ?_
  refine drun_drive 40 (p := (_, _)) ?_
  simp only [go_sem, v31_5, bt8, bd16, bt16, bt16', restore, Option.join_some, maskH, List.mapIdx_cons, List.mapIdx_nil, List.contains_cons, List.contains_nil, Bool.or_false, Bool.or_true, Bool.false_or, Bool.true_or, Nat.reduceBEq]
  refine drun_end ?_
  refine run_driveS 80 ?_
  simp only [go_sem, v31_7]
  refine run_loop_eq v31_8.eq_1 ?_
  refine run_driveS 80 ?_
  simp only [go_sem, v31_3]
  refine run_exit rfl ?_
  refine run_driveS 80 ?_
  simp only [go_sem, v31_10]
  refine run_cond_t (by rfl) ?_
  refine run_driveS 80 ?_
  simp only [go_sem, v31_11]
  refine run_call' rfl ?_
  simp only [go_sem, calV]
  refine vcall_at (plain3 hG q g h a b c hq hg hh ha hb hc (.grow 8) (fun v k => v = lw (((q * c % ell + g * a % ell) % ell + h * b % ell) % ell) ∧ k = [some ⟨.ro, lc c ++ lc q ++ (lc a ++ lc g ++ (lc b ++ lc h))⟩]) ⟨rfl, rfl⟩) [10] (by simp) ?_ ?_ ?_ ?_
  · exact hfit_cons rfl (bfit_same (by simp only [rens_append, lc_rens])) hfit_nil
  · exact uniq_nodup (by decide)
  · simp only [rens, ren, gmap]
  rintro v k ⟨rfl, rfl⟩
  rw [puts_ro (by simp [wrB]) rfl (by simp)]
  simp only [List.drop_succ_cons, List.drop_zero, List.length_cons, List.length_nil, List.map_nil, List.append_nil, Nat.reduceAdd, lw_plain]
  refine run_driveS 80 ?_
  simp only [go_sem]
  refine run_ret_drop Tryz.func31 res31 [0, 1, 2, 3] (lw (((q * c % ell + g * a % ell) % ell + h * b % ell) % ell)) _ rfl (by simp) ?_ ?_ ?_ hQ
  · simp only [go_sem, hfit, lc_fit, scs_fit, fit, ren, gmap, lw_plain, true_or, or_true]
  · simp [uniq, wrB]
  · simp only [go_sem, rr31, ren, rens, gmap, lw_plain]
end
section
attribute [local go_sem ↓] lc_len lc_take lc_drop lc_known lc_one lc_rens lc_cells lw_known lw_agg lw_asG scs_known scs_one scs_len lc_take_add lc_drop_add
attribute [local go_sem] lt_nat lt_natl lt_lnat lt_ll bool_tf bool_ft
set_option maxRecDepth 100000
set_option maxHeartbeats 1000000
def im1 (q g h a b : Nat) : Nat := ((q * (a * b % ell) % ell + g * a % ell) % ell + h * b % ell) % ell
theorem im1_lt (q g h a b : Nat) : im1 q g h a b < ell := mod_lt' _
theorem image_fn (hG : G 0 = tbl) (q g h a b : Nat) (hq : q < 115792089237316195423570985008687907853269984665640564039457584007913129639936) (hg : g < 115792089237316195423570985008687907853269984665640564039457584007913129639936) (hh : h < 115792089237316195423570985008687907853269984665640564039457584007913129639936) (ha : a < 115792089237316195423570985008687907853269984665640564039457584007913129639936) (hb : b < 115792089237316195423570985008687907853269984665640564039457584007913129639936) (c1 c2 : Cap) (Q : V → Heap → Prop) (hQ : Q (.tup [lw (im1 q g h a b), .int .i64 0]) [some ⟨.ro, lc g⟩, some ⟨.ro, lc h⟩, some ⟨.ro, lc a⟩, some ⟨.ro, lc b⟩]) :
    VCall Tryz.prog G 20 [lw q, .sl 0 0 1 c1, .sl 1 0 1 c2, .sl 2 0 1 (.exact 1), .sl 3 0 1 (.exact 1)] [some ⟨.ro, lc g⟩, some ⟨.ro, lc h⟩, some ⟨.ro, lc a⟩, some ⟨.ro, lc b⟩] Q := by
  have hz0 : [V.int .u64 (nl 0), .int .u64 (nl 0), .int .u64 (nl 0), .int .u64 (nl 0)] = lc 0 := rfl
  refine vcall_body Tryz.func20 nm20 code20 nt20 ?_
  refine run_driveS 80 ?_
  simp only [go_sem, v20, v20_0, v20_1, hz0]
  refine run_cond_f (by rfl) ?_
  refine run_driveS 80 ?_
  simp only [go_sem, v20_4]
  refine run_call' rfl ?_
  simp only [go_sem, calV]
  refine vcall_at (inner1 hG a b ha hb (fun v k => v = .tup [lw (a * b % ell), .int .i64 0] ∧ k = [some ⟨.ro, lc a⟩, some ⟨.ro, lc b⟩]) ⟨rfl, rfl⟩) [2, 3] (by simp) ?_ ?_ ?_ ?_
  · exact hfit_cons rfl (bfit_same (lc_rens ..)) (hfit_cons rfl (bfit_same (lc_rens ..)) hfit_nil)
  · exact uniq_nodup (by decide)
  · simp only [rens, ren, gmap]
  rintro v k ⟨rfl, rfl⟩
  rw [puts_ro (by simp [wrB]) rfl (by simp)]
  simp only [List.drop_succ_cons, List.drop_zero, List.length_cons, List.length_nil, List.map_nil, List.append_nil, Nat.reduceAdd, ren, rens, lw_plain]
  refine run_driveS 80 ?_
  simp only [go_sem, v20_5, hz0]
  refine run_call' rfl ?_
  simp only [go_sem, calV]
  refine vcall_at (image1 hG q g h a b (a * b % ell) hq hg hh ha hb (mod_lt _) c1 c2 (fun v k => v = lw (im1 q g h a b) ∧ k = [some ⟨.ro, lc g⟩, some ⟨.ro, lc h⟩, some ⟨.ro, lc a⟩, some ⟨.ro, lc b⟩]) ⟨rfl, rfl⟩) [0, 1, 2, 3] (by simp) ?_ ?_ ?_ ?_
  · exact hfit_cons rfl (bfit_same (lc_rens ..)) (hfit_cons rfl (bfit_same (lc_rens ..)) (hfit_cons rfl (bfit_same (lc_rens ..)) (hfit_cons rfl (bfit_same (lc_rens ..)) hfit_nil)))
  · exact uniq_nodup (by decide)
  · simp only [rens, ren, gmap, lw_plain]
  rintro v k ⟨rfl, rfl⟩
  rw [puts_ro (by simp [wrB]) rfl (by simp)]
  simp only [List.drop_succ_cons, List.drop_zero, List.length_cons, List.length_nil, List.map_nil, List.append_nil, Nat.reduceAdd, lw_plain]
  refine run_driveS 80 ?_
  simp only [go_sem]
  refine run_ret_drop Tryz.func20 res20 [0, 1, 2, 3] (.tup [lw (im1 q g h a b), .int .i64 0]) _ rfl (by simp) ?_ ?_ ?_ hQ
  · simp only [go_sem, hfit, lc_fit, scs_fit, fit, ren, gmap, lw_plain, true_or, or_true]
  · simp [uniq, wrB]
  · simp only [go_sem, rr20, ren, rens, gmap, lw_plain]
end
end Go.Vs.Tryz
namespace Go.Vs.Tryz
theorem fe_fo (a b us : Nat → Nat) (ha : ∀ i, a i % ell = linv (us i)) (hb : ∀ i, b i % ell = us i % ell) (N t : Nat) (ht : t < N) (f : Nat → Nat) : fe (linv (us t)) (us t) (2 ^ (N - (t + 1))) f = fo a b N (N - (t + 1)) f := by
  funext j
  unfold fe fo
  rw [show N - 1 - (N - (t + 1)) = t by omega, add_l, add_r, Nat.add_comm (2 ^ (N - (t + 1))) j, ← add_l, ← add_r]
  conv => rhs; rw [← add_l, ← add_r]
  congr 2
  · rw [← ha t, Nat.mul_mod_mod]
  · rw [← Nat.mul_mod_mod, ← hb t, Nat.mul_mod_mod]
theorem fe_fo' (a b us : Nat → Nat) (ha : ∀ i, a i % ell = linv (us i)) (hb : ∀ i, b i % ell = us i % ell) (N t : Nat) (ht : t < N) (f : Nat → Nat) : fe (us t) (linv (us t)) (2 ^ (N - (t + 1))) f = fo b a N (N - (t + 1)) f := by
  funext j
  unfold fe fo
  rw [show N - 1 - (N - (t + 1)) = t by omega, add_l, add_r, Nat.add_comm (2 ^ (N - (t + 1))) j, ← add_l, ← add_r]
  conv => rhs; rw [← add_l, ← add_r]
  congr 2
  · rw [← Nat.mul_mod_mod, ← hb t, Nat.mul_mod_mod]
  · rw [← ha t, Nat.mul_mod_mod]
theorem gl_Gs (a b us g : Nat → Nat) (ha : ∀ i, a i % ell = linv (us i)) (hb : ∀ i, b i % ell = us i % ell) (N : Nat) : ∀ t, t ≤ N → gl a b N (N - t) (Gs us g N t) = gl a b N N g
  | 0, _ => rfl
  | t + 1, h => by
    rw [← gl_Gs a b us g ha hb N t (by omega), Gs, fe_fo a b us ha hb N t (by omega)]
    rw [show N - t = N - (t + 1) + 1 by omega, gl]
theorem gl_Hs (a b us g : Nat → Nat) (ha : ∀ i, a i % ell = linv (us i)) (hb : ∀ i, b i % ell = us i % ell) (N : Nat) : ∀ t, t ≤ N → gl b a N (N - t) (Hs us g N t) = gl b a N N g
  | 0, _ => rfl
  | t + 1, h => by
    rw [← gl_Hs a b us g ha hb N t (by omega), Hs, fe_fo' a b us ha hb N t (by omega)]
    rw [show N - t = N - (t + 1) + 1 by omega, gl]
end Go.Vs.Tryz
namespace Go.Vs.Tryz
open Go.Proofs
variable {G : Nat → List V}
set_option linter.unusedSimpArgs false
attribute [local go_sem] lenO_nils lenO_sl sliceAtV Int.sub_zero List.length_append List.all_append ge_iff_le gt_iff_lt Int.natCast_nonneg Int.toNat_natCast Nat.mul_one b_and_ll b_shr_ll b_mul_ll b_add_ll b_or_ll b_shl_ll pick_ll pick_lc pick_bb driveS stopV Option.isSome_some Option.isSome_none Kind.m Kind.w Kind.g look_ro look_rw look_grow drive stepV exo expo evs fillV isNil nilKind eqV eqL optA optM sliceAtV ev kn ldc stc splice appV srcV lenV setd wantV exitV rvs rv one List.length_cons List.length_nil List.cons_append List.nil_append List.append_nil List.replicate List.getD_cons_zero List.getD_cons_succ List.set_cons_zero List.set_cons_succ List.getElem?_cons_zero List.getElem?_cons_succ List.getElem?_nil List.take_succ_cons List.take_zero List.take_nil List.drop_succ_cons List.drop_zero List.drop_nil List.all_cons List.all_nil List.any_cons List.any_nil Bool.and_true Bool.true_and Bool.and_self Option.map_some Option.map_none Option.bind_some Option.some.injEq Nat.add_zero Nat.zero_add Int.toNat_zero Int.toNat_one Int.zero_add Int.add_zero if_true if_false ite_true ite_false and_true true_and and_self ne_eq not_false_eq_true not_true_eq_false decide_true decide_false Bool.false_eq_true Bool.not_true Bool.not_false beq_self_eq_true BEq.rfl Bool.not_eq_true Nat.le_refl Int.le_refl Nat.zero_le List.foldl List.map_cons List.map_nil Prod.mk.injEq Int.cast_ofNat_Int Int.zero_le_ofNat b_add_cc b_add_cl b_add_lc b_mul_cc b_mul_cl b_mul_lc b_sub_cc b_sub_cl b_sub_lc b_and_cc b_and_cl b_and_lc b_or_cc b_or_cl b_or_lc b_xor_cc b_xor_cl b_xor_lc b_andNot_cc b_andNot_cl b_andNot_lc b_shr_cc b_shr_cl b_shr_lc b_shl_cc b_shl_cl b_shl_lc b_lss b_leq b_gtr b_geq b_add_i b_sub_i b_mul_i beq_cc beq_cl beq_lc beq_ll b_quo_i b_rem_i neg_u64 wrap_i64 driveD stepD idsAt idOf maskH_nil restore_nil restore_mask List.filterMap_nil List.filterMap_cons VOp.looks VOp.makes exA cells_agg cells_int cells_bool cells_str cells_nilp cells_ptr cells_glob cells_nils cells_sl cells_nilf cells_fn cells_nili cells_ifc known_agg known_tup known_int known_bool known_str known_nilp known_ptr known_glob known_nils known_sl known_nilf known_fn known_nili known_ifc known_unk one_agg one_tup one_int one_bool one_str one_nilp one_ptr one_glob one_nils one_sl one_nilf one_fn one_nili one_ifc asK_int asN_int asB_bool asS_str asG_agg asT_tup true_or or_true false_or or_false
attribute [local go_sem_proc] Nat.reduceAdd Nat.reduceSub Nat.reduceLeDiff Nat.reduceMul Nat.reduceLT Nat.reduceEqDiff Int.reduceLT Int.reduceLE Int.reduceAdd Int.reduceSub Int.reduceMul Int.reduceToNat reduceIte reduceCtorEq Nat.reduceBEq
section
attribute [local go_sem ↓] lc_len lc_take lc_drop lc_known lc_one lc_rens lc_cells lw_known lw_agg lw_asG scs_known scs_one scs_len lc_take_add lc_drop_add lenO_dv dv_known dv_one dv_ren
attribute [local go_sem] lt_nat lt_natl lt_lnat lt_ll bool_tf bool_ft yld_known ivl_known ivl_one'
set_option maxRecDepth 100000
set_option maxHeartbeats 2000000
theorem Z5_fit {us g : Nat → Nat} {N : Nat} (f : Nat → Nat) (t : Nat) : bfit f (Z5 us g N t) (Z5 us g N t) := by
  cases t with
  | zero => trivial
  | succ s => exact bfit_g (scs_rens ..)
theorem W5_fit {us g : Nat → Nat} {N : Nat} (f : Nat → Nat) (t : Nat) : bfit f (W5 us g N t) (W5 us g N t) := by
  cases t with
  | zero => trivial
  | succ s => exact bfit_g (scs_rens ..)
theorem bfit_st3 {f : Nat → Nat} {P Q i j i' j' n : Nat} {c d : Cap} (hi : f i = i') (hj : f j = j') : bfit f (some ⟨.ro, lc P ++ (lc Q ++ [.sl i 0 n c, .sl j 0 n d])⟩) (some ⟨.rw, lc P ++ (lc Q ++ [.sl i' 0 n c, .sl j' 0 n d])⟩) := ⟨.inr ⟨rfl, rfl⟩, (bfit_st2 hi hj).2⟩
theorem bfit_x3 {f : Nat → Nat} {i j i' j' n a b : Nat} (hi : f i = i') (hj : f j = j') : bfit f (some ⟨.ro, dv i n :: dv j n :: (lc a ++ lc b)⟩) (some ⟨.rw, dv i' n :: dv j' n :: (lc a ++ lc b)⟩) := ⟨.inr ⟨rfl, rfl⟩, (bfit_x (by rw [dv_ren, hi]) (by rw [dv_ren, hj])).2⟩
theorem bfit_u3 {f : Nat → Nat} {i i' n : Nat} (hi : f i = i') : bfit f (some ⟨.ro, [dv i n]⟩) (some ⟨.rw, [dv i' n]⟩) := ⟨.inr ⟨rfl, rfl⟩, (bfit_u (by rw [dv_ren, hi])).2⟩
theorem enters60 (xs : Array Value) (w : World) : (callFunc 28 xs).run Tryz.prog w = .ok (.enter 28 xs) w := by
  have h1 : Tryz.f28.name ≠ "runtime.NumGoroutine" := by have := nm28; simpa using this
  obtain ⟨c, hb, _⟩ := Option.bind_eq_some_iff.1 code28
  simp [callFunc, Tryz.func28, h1, hb]
end
section
attribute [local go_sem ↓] lc_len lc_take lc_drop lc_known lc_one lc_rens lc_cells lw_known lw_agg lw_asG scs_known scs_one scs_len lc_take_add lc_drop_add lenO_dv dv_known dv_one dv_ren
attribute [local go_sem] lt_nat lt_natl lt_lnat lt_ll bool_tf bool_ft yld_known
set_option maxRecDepth 100000
set_option maxHeartbeats 2000000
theorem st_fit (f : Nat → Nat) (P Q : Nat) (x y : V) : fit f (lc P ++ (lc Q ++ [.unk, .unk])) (lc P ++ (lc Q ++ [x, y])) := by
  unfold lc
  simp only [List.cons_append, List.nil_append, fit, ren, u, true_or, or_true, and_self]
def tm7 : List V := List.replicate 8 .unk ++ [.ptr 9 0] ++ List.replicate 39 .unk
theorem tm7_fit (f : Nat → Nat) (hf : ∀ j, j < 12 → f j = j) : fit f tm7 tm7 := by
  unfold tm7
  simp only [go_sem, fit, ren, hf 9 (by decide), true_or, or_true]
section
variable (us g h Lf Rf : Nat → Nat) (N P Q' : Nat)
noncomputable def A7 : Nat → Nat → Nat → Option Blk
  | 0, _, _ => some ⟨.rw, lc P ++ (lc Q' ++ [.unk, .unk])⟩
  | s + 1, i, j => some ⟨.rw, lc (Ps us Lf Rf P s) ++ (lc Q' ++ [.sl i 0 (2 ^ (N - s)) (.grow 4), .sl j 0 (2 ^ (N - s)) (.grow 4)])⟩
theorem A7_fit (f : Nat → Nat) (t i j : Nat) : bfit f (A7 us Lf Rf N P Q' t i j) (A7 us Lf Rf N P Q' t (f i) (f j)) := by
  cases t with
  | zero => exact bfit_g (by simp only [rens_append, lc_rens, rens, ren])
  | succ s => exact bfit_st2 rfl rfl
theorem round7 (hN : N ≤ 10) (r : Loop) (hr1 : r.state = .ready) (hr2 : r.pending = none) (hr3 : r.fn = 7) (hr4 : r.params.toList = [24]) (hr5 : cCode Tryz.prog r.assign = some v7_9) (hr6 : cCode Tryz.prog r.body = some v7_10) (t : Nat) (ht : t ≤ N) (B0 B1 B2 B3 B4 B5' B6 B7 B12 B13 B14 B17 : Option Blk) {F : V → Heap → Prop} :
    YCall Tryz.prog G 8 [stL (Ps us Lf Rf P t) Q' (.sl 18 0 (2 ^ (N - t)) (.grow 4)) (.sl 19 0 (2 ^ (N - t)) (.grow 4))]
      [B0, B1, B2, B3, B4, B5', B6, B7, some ⟨.loop r, tm7⟩, A7 us Lf Rf N P Q' t 15 16, none, none, B12, B13, B14, Z5 us g N t, W5 us h N t, B17, some ⟨.grow, scs (2 ^ (N - t)) (Gs us g N t)⟩, some ⟨.grow, scs (2 ^ (N - t)) (Hs us h N t)⟩]
      fun v h' => (v = .bool true ∧ ∃ X, h' = B0 :: B1 :: B2 :: B3 :: B4 :: B5' :: B6 :: B7 :: some ⟨.loop r, tm7⟩ :: A7 us Lf Rf N P Q' (t + 1) 18 19 :: none :: none :: B12 :: B13 :: B14 :: Z5 us g N t :: W5 us h N t :: B17 :: Z5 us g N (t + 1) :: W5 us h N (t + 1) :: X) ∨ F v h' := by
  refine ycall_of (r := r) (tm := tm7) rfl (by rw [← Array.length_toList, hr4]; rfl) hr5 hr6 ?_
  rw [hr3, hr4]
  unfold tm7 stL
  have hrr : (⟨.ready, none, r.fn, r.tmps, r.params, r.assign, r.body, r.defers⟩ : Loop) = r := by
    cases r
    simp only at hr1 hr2
    subst hr1 hr2
    rfl
  have d10 : ∀ a b c d, List.drop 10 (lc a ++ (lc b ++ [c, d])) = [] := fun _ _ _ _ => rfl
  have l10 : ∀ a b c d, (lc a ++ (lc b ++ [c, d])).length = 10 := fun _ _ _ _ => rfl
  rcases t with _ | s
  · unfold A7
    simp only [putps, List.replicate, List.cons_append, List.nil_append]
    refine run_driveS 80 ?_
    simp only [go_sem, v7_9, v7_6]
    refine run_beg (i := 8) rfl hr1 ?_
    refine run_driveS 80 ?_
    simp only [go_sem, v7_10, v7_8, v7_7, d10]
    refine run_round_end (i := 8) rfl (.inl ⟨rfl, [some ⟨.rw, lc (Ps us Lf Rf P 0) ++ (lc Q' ++ [.sl 18 0 (2 ^ (N - 0)) (.grow 4), .sl 19 0 (2 ^ (N - 0)) (.grow 4)])⟩], ?_⟩)
    simp only [go_sem, hrr]
    rfl
  · unfold A7
    simp only [putps, List.replicate, List.cons_append, List.nil_append]
    refine run_driveS 80 ?_
    simp only [go_sem, v7_9, v7_6]
    refine run_beg (i := 8) rfl hr1 ?_
    refine run_driveS 80 ?_
    simp only [go_sem, v7_10, v7_8, v7_7, d10]
    refine run_round_end (i := 8) rfl (.inl ⟨rfl, [some ⟨.rw, lc (Ps us Lf Rf P (s + 1)) ++ (lc Q' ++ [.sl 18 0 (2 ^ (N - (s + 1))) (.grow 4), .sl 19 0 (2 ^ (N - (s + 1))) (.grow 4)])⟩], ?_⟩)
    simp only [go_sem, hrr]
    rfl
end
theorem verify_fn (hG : G 0 = tbl) (us g h Lf Rf : Nat → Nat) (hus : ∀ j, us j < 115792089237316195423570985008687907853269984665640564039457584007913129639936) (hg : ∀ j, g j < 115792089237316195423570985008687907853269984665640564039457584007913129639936) (hh : ∀ j, h j < 115792089237316195423570985008687907853269984665640564039457584007913129639936) (hL : ∀ j, Lf j < 115792089237316195423570985008687907853269984665640564039457584007913129639936) (hR : ∀ j, Rf j < 115792089237316195423570985008687907853269984665640564039457584007913129639936) (P Q' a b nG nH nL nR nU : Nat) (hP : P < 115792089237316195423570985008687907853269984665640564039457584007913129639936) (hQ' : Q' < 115792089237316195423570985008687907853269984665640564039457584007913129639936) (ha : a < 115792089237316195423570985008687907853269984665640564039457584007913129639936) (hb : b < 115792089237316195423570985008687907853269984665640564039457584007913129639936) (hnG : nG < 1000000) (hnU : nU < 1000000) (c1 c2 c3 c4 c : Cap) (rG rH rL rR rU : List V) (hrG : ∀ f, rens f rG = rG) (hrH : ∀ f, rens f rH = rH) (hrL : ∀ f, rens f rL = rL) (hrR : ∀ f, rens f rR = rR) (hrU : ∀ f, rens f rU = rU) (Q : V → Heap → Prop)
    (hQ2 : (∀ k, ¬ Fit nG nH nL nR nU k) → Q (.int .i64 2) [some ⟨.ro, scs nG g ++ rG⟩, some ⟨.ro, scs nH h ++ rH⟩, some ⟨.ro, scs nL Lf ++ rL⟩, some ⟨.ro, scs nR Rf ++ rR⟩, some ⟨.ro, scs nU us ++ rU⟩])
    (hQ4 : ∀ k, Fit nG nH nL nR nU k → (∃ j, j < nU ∧ us j % ell = 0) → Q (.int .i64 4) [some ⟨.ro, scs nG g ++ rG⟩, some ⟨.ro, scs nH h ++ rH⟩, some ⟨.ro, scs nL Lf ++ rL⟩, some ⟨.ro, scs nR Rf ++ rR⟩, some ⟨.ro, scs nU us ++ rU⟩])
    (hQ0 : ∀ k, Fit nG nH nL nR nU k → (∀ j, j < nU → us j % ell ≠ 0) → Q (.int .i64 (if im1 Q' (Gs us g k k 0) (Hs us h k k 0) a b % ell = Ps us Lf Rf P k % ell then 0 else 120)) [some ⟨.ro, scs nG g ++ rG⟩, some ⟨.ro, scs nH h ++ rH⟩, some ⟨.ro, scs nL Lf ++ rL⟩, some ⟨.ro, scs nR Rf ++ rR⟩, some ⟨.ro, scs nU us ++ rU⟩]) :
    VCall Tryz.prog G 7 [stL P Q' (.sl 0 0 nG c1) (.sl 1 0 nH c2), arL (.sl 2 0 nL c3) (.sl 3 0 nR c4) a b, .sl 4 0 nU c] [some ⟨.ro, scs nG g ++ rG⟩, some ⟨.ro, scs nH h ++ rH⟩, some ⟨.ro, scs nL Lf ++ rL⟩, some ⟨.ro, scs nR Rf ++ rR⟩, some ⟨.ro, scs nU us ++ rU⟩] Q := by
  have hm : ∀ k : Nat, k = k := fun _ => rfl
  have fin : ∀ (n : Int) (st : St) (hp : List (Option Blk)) (K : List TI), Q (.int .i64 n) [some ⟨.ro, scs nG g ++ rG⟩, some ⟨.ro, scs nH h ++ rH⟩, some ⟨.ro, scs nL Lf ++ rL⟩, some ⟨.ro, scs nR Rf ++ rR⟩, some ⟨.ro, scs nU us ++ rU⟩] → st.heap = some ⟨.ro, scs nG g ++ rG⟩ :: some ⟨.ro, scs nH h ++ rH⟩ :: some ⟨.ro, scs nL Lf ++ rL⟩ :: some ⟨.ro, scs nR Rf ++ rR⟩ :: some ⟨.ro, scs nU us ++ rU⟩ :: hp → st.tmps[6]? = some (.int .i64 n) → Run Tryz.prog G 7 5 Q (.c .ret :: K, st) := by
    intro n st hp K hq he ht
    refine run_ret_drop Tryz.func7 res7 [0, 1, 2, 3, 4] (.int .i64 n) _ rfl (by simp) ?_ ?_ ?_ hq
    · rw [he]
      exact hfit_cons rfl (bfit_sm2 hrG) (hfit_cons rfl (bfit_sm2 hrH) (hfit_cons rfl (bfit_sm2 hrL) (hfit_cons rfl (bfit_sm2 hrR) (hfit_cons rfl (bfit_sm2 hrU) hfit_nil))))
    · exact uniq_nodup (by decide)
    · simp only [go_sem, rr7, ren, List.getD_eq_getElem?_getD, ht, Option.getD_some]
  refine vcall_body Tryz.func7 nm7 code7 nt7 ?_
  unfold stL arL
  refine run_driveS 80 ?_
  simp only [go_sem, v7, v7_0, v7_1]
  refine run_call' rfl ?_
  simp only [go_sem, calV]
  refine vcall_at (fits_p hG P Q' a b nG nH nL nR nU hnG hnU c1 c2 c3 c4 c us hus rU hrU (fun v k => k = [some ⟨.ro, scs nU us ++ rU⟩, none, none, none, none] ∧ (((∀ k, ¬ Fit nG nH nL nR nU k) ∧ v = .int .i64 2) ∨ (∃ m, Fit nG nH nL nR nU m ∧ (∃ j, j < nU ∧ us j % ell = 0) ∧ v = .int .i64 4) ∨ (∃ m, Fit nG nH nL nR nU m ∧ (∀ j, j < nU → us j % ell ≠ 0) ∧ v = .int .i64 0)))
    (fun e => ⟨rfl, .inl ⟨e, rfl⟩⟩) (fun m e1 e2 => ⟨rfl, .inr (.inl ⟨m, e1, e2, rfl⟩)⟩) (fun m e1 e2 => ⟨rfl, .inr (.inr ⟨m, e1, e2, rfl⟩)⟩)) [4, 0, 1, 2, 3] (by simp) ?_ ?_ ?_ ?_
  · exact hfit_cons rfl (bfit_sm2 hrU) (hfit_cons_none (hfit_cons_none (hfit_cons_none (hfit_cons_none hfit_nil))))
  · exact uniq_nodup (by decide)
  · simp only [rens, ren, gmap, stL, arL, rens_append, lc_rens]
  rintro v l ⟨rfl, hcase⟩
  rw [puts_ro (by simp [wrB]) rfl (by simp)]
  simp only [List.drop_succ_cons, List.drop_zero, List.length_cons, List.length_nil, List.map_nil, List.append_nil, Nat.reduceAdd]
  rcases hcase with ⟨f1, rfl⟩ | ⟨m, f1, f2, rfl⟩ | ⟨k, f1, f2, rfl⟩
  · refine run_driveS 80 ?_
    simp only [go_sem, v7_2]
    refine run_cond_t (by rfl) ?_
    refine run_driveS 80 ?_
    simp only [go_sem, v7_3]
    exact fin 2 _ _ _ (hQ2 f1) rfl rfl
  · refine run_driveS 80 ?_
    simp only [go_sem, v7_2]
    refine run_cond_t (by rfl) ?_
    refine run_driveS 80 ?_
    simp only [go_sem, v7_3]
    exact fin 4 _ _ _ (hQ4 m f1 f2) rfl rfl
  have hq := hQ0 k f1 f2
  clear hQ0 hQ2 hQ4
  obtain ⟨rfl, hk, rfl, rfl, rfl, rfl⟩ := f1
  refine run_driveS 80 ?_
  simp only [go_sem, v7_2]
  refine run_cond_f (by rfl) ?_
  refine run_driveS 80 ?_
  simp only [go_sem, v7_4, v7_5]
  refine run_call' rfl ?_
  simp only [go_sem, calV]
  refine vcall_at (rounds_fn2 P Q' a b nU hk c1 c2 c3 c4 g h Lf Rf us rG rH rL rR rU hrG hrH hrL hrR hrU c (fun v l => v = .fn (.func 28) [] [.ptr 5 0, .ptr 6 0, .ptr 7 0] ∧ l = _) ⟨rfl, rfl⟩) [0, 1, 2, 3, 4] (by simp) ?_ ?_ ?_ ?_
  · exact hfit_cons rfl (bfit_sm2 hrG) (hfit_cons rfl (bfit_sm2 hrH) (hfit_cons rfl (bfit_sm2 hrL) (hfit_cons rfl (bfit_sm2 hrR) (hfit_cons rfl (bfit_sm2 hrU) hfit_nil))))
  · exact uniq_nodup (by decide)
  · simp only [rens, ren, gmap, stL, arL, rens_append, lc_rens]
  rintro v l ⟨rfl, rfl⟩
  rw [puts_ro (by simp [wrB_ro]) rfl (by simp)]
  simp only [List.map_cons, List.map_nil, Option.map_some, renB, scs_rens, rens_append, lc_rens, rens, ren, gmap, stL, List.drop_succ_cons, List.drop_zero, List.cons_append, List.nil_append, List.length_cons, List.length_nil, Nat.reduceAdd, dv_ren, db_map]
  refine run_driveS 80 ?_
  simp only [go_sem, v7_11]
  refine run_range rfl enters60 (fun r r1 r2 r3 r4 r5 r6 => ?_)
  have hro := fun t ht B0 B1 B2 B3 B4 B5' B6 B7 B12 B13 B14 B17 F => round7 (G := G) us g h Lf Rf nU P Q' hk r r1 r2 r3 r4 r5 r6 t ht B0 B1 B2 B3 B4 B5' B6 B7 B12 B13 B14 B17 (F := F)
  have hr1 := rounds1 (G := G) us g h Lf Rf nU P Q' a b r tm7 (A7 us Lf Rf nU P Q') (fun _ => none) (fun _ => none) (Z5 us g nU) (W5 us h nU) hG hk hus f2 hg hh hL hR hP hQ'
    tm7_fit (A7_fit us Lf Rf nU P Q') (fun _ _ => trivial) (fun _ _ => trivial) Z5_fit W5_fit rfl rfl (fun _ _ => rfl)
    (fun v l => v = .tup [] ∧ l = [bS nU P Q', bX nU a b, bU nU, some ⟨.ro, scs (2 ^ nU) g⟩, some ⟨.ro, scs (2 ^ nU) h⟩, rob Lf nU, rob Rf nU, rob us nU, some ⟨.loop r, tm7⟩, A7 us Lf Rf nU P Q' (nU + 1) 12 13, none, none, Z5 us g nU (nU + 1), W5 us h nU (nU + 1)]) (fun _ _ _ _ => False)
    (fun t ht B0 B1 B2 B3 B4 B5' B6 B7 B12 B13 B14 B17 => hro t ht B0 B1 B2 B3 B4 B5' B6 B7 B12 B13 B14 B17 _) ⟨rfl, rfl⟩ (fun _ _ _ _ e => e.elim)
  clear hro
  simp only [go_sem]
  refine vcall_at hr1 [8, 9, 10, 11, 12, 13, 14, 15, 16, 7, 0, 1] (by simp) ?_ ?_ ?_ ?_
  · refine hfit_cons rfl (bfit_st3 rfl rfl) (hfit_cons rfl (bfit_x3 rfl rfl) (hfit_cons rfl (bfit_u3 rfl) (hfit_cons rfl (bfit_same (scs_rens ..)) (hfit_cons rfl (bfit_same (scs_rens ..)) (hfit_cons rfl bfit_db (hfit_cons rfl bfit_db (hfit_cons rfl bfit_db (hfit_cons rfl ⟨.inl rfl, ?_⟩ (hfit_cons rfl ⟨.inl rfl, ?_⟩ (hfit_cons_none (hfit_cons_none hfit_nil)))))))))))
    · unfold tm7
      simp only [go_sem, hfit, lc_fit, scs_fit, fit, ren, gmap, lw_plain, true_or, or_true]
    · exact st_fit ..
  · exact uniq_nodup (by decide)
  · simp only [rens, ren, gmap]
  rintro v l ⟨rfl, rfl⟩
  clear hr1
  have w1 : wrB (bS nU P Q') = false := rfl
  have w2 : wrB (bX nU a b) = false := rfl
  have w3 : wrB (bU nU) = false := rfl
  have w4 : wrB (some ⟨.loop r, tm7⟩) = true := rfl
  have w5 : wrB (A7 us Lf Rf nU P Q' 0 0 0) = true := rfl
  simp only [puts, w1, w2, w3, w4, w5, wrB_rob, wrB_ro, wrB_none, Bool.false_eq_true, if_false, if_true]
  simp only [go_sem, A7, Z5, W5, Nat.sub_self, Nat.pow_zero, renB, scs_rens, rens_append, lc_rens, rens, ren, gmap]
  refine ⟨r, _, _, rfl, by rw [r1]; decide, by rw [r2]; rfl, ?_⟩
  clear r1 r2 r3 r4 r5 r6
  have hgl := Gs_lt (us := us) (N := nU) hg nU 0
  have hhl := Hs_lt (us := us) (N := nU) hh nU 0
  have hpl := Ps_lt (us := us) (L := Lf) (R := Rf) hP nU
  have hil := Nat.lt_trans (im1_lt Q' (Gs us g nU nU 0) (Hs us h nU nU 0) a b) ell_lt
  have hz0 : [V.int .u64 (nl 0), .int .u64 (nl 0), .int .u64 (nl 0), .int .u64 (nl 0)] = lc 0 := rfl
  refine run_driveS 80 ?_
  simp only [go_sem, v7_12]
  refine run_call' rfl ?_
  simp only [go_sem, calV]
  refine vcall_at (image_fn hG Q' (Gs us g nU nU 0) (Hs us h nU nU 0) a b hQ' hgl hhl ha hb (.grow 4) (.grow 4) (fun v k => v = .tup [lw (im1 Q' (Gs us g nU nU 0) (Hs us h nU nU 0) a b), .int .i64 0] ∧ k = [some ⟨.ro, lc (Gs us g nU nU 0)⟩, some ⟨.ro, lc (Hs us h nU nU 0)⟩, some ⟨.ro, lc a⟩, some ⟨.ro, lc b⟩]) ⟨rfl, rfl⟩) [17, 18, 19, 20] (by simp) ?_ ?_ ?_ ?_
  · exact hfit_cons rfl (bfit_same (lc_rens ..)) (hfit_cons rfl (bfit_same (lc_rens ..)) (hfit_cons rfl (bfit_same (lc_rens ..)) (hfit_cons rfl (bfit_same (lc_rens ..)) hfit_nil)))
  · exact uniq_nodup (by decide)
  · simp only [rens, ren, gmap, lw_plain]
  rintro v l ⟨rfl, rfl⟩
  rw [puts_ro (by simp [wrB]) rfl (by simp)]
  simp only [List.drop_succ_cons, List.drop_zero, List.length_cons, List.length_nil, List.map_nil, List.append_nil, Nat.reduceAdd, ren, rens, lw_plain]
  refine run_driveS 80 ?_
  simp only [go_sem, v7_13, hz0]
  refine run_call' rfl ?_
  simp only [go_sem, calV, m_same]
  refine line_same hG _ _ hil hpl ?_
  refine run_driveS 80 ?_
  simp only [go_sem]
  by_cases he : im1 Q' (Gs us g nU nU 0) (Hs us h nU nU 0) a b % ell = Ps us Lf Rf P nU % ell
  · rw [if_pos he] at hq
    refine run_cond_f (by simp only [go_sem, decide_eq_true he]) ?_
    refine run_driveS 80 ?_
    simp only [go_sem, v7_15]
    exact fin 0 _ _ _ hq rfl rfl
  · rw [if_neg he] at hq
    refine run_cond_t (by simp only [go_sem, decide_eq_false he]) ?_
    refine run_driveS 80 ?_
    simp only [go_sem, v7_14]
    exact fin 120 _ _ _ hq rfl rfl
end
section
attribute [local go_sem ↓] lc_len lc_take lc_drop lc_known lc_one lc_rens lc_cells lw_known lw_agg lw_asG scs_known scs_one scs_len
attribute [local go_sem] lt_nat lt_natl lt_lnat lt_ll bool_tf bool_ft ivl_known ivl_one'
set_option maxRecDepth 100000
set_option maxHeartbeats 1000000
theorem cut_iv (i N m : Nat) (z : Bool) (ho : Ok N m z) {h : Heap} {Q : V → Heap → Prop} (hQ : Q (ivl i (min N 2100) m z) h) : VCall Tryz.prog G 17 [ivl i N m z] h Q := by
  cases z with
  | true => exact cut_nil hQ
  | false => exact cut_sl' i N m ho.1 hQ
theorem ok_min {N m : Nat} {z : Bool} (ho : Ok N m z) : Ok (min N 2100) m z := ⟨Nat.le_trans (Nat.min_le_left ..) ho.1, fun h => by rw [ho.2 h]; rfl⟩
theorem scs_last (n : Nat) (f : Nat → Nat) (k : Nat) : ((scs n f ++ lc k).drop (n * 4)).take 4 = lc k := by
  rw [List.drop_left' (scs_len n f)]; rfl
theorem scalars_stay (f : Nat → Nat) (hf : ∀ j, f j < 115792089237316195423570985008687907853269984665640564039457584007913129639936) (N m n : Nat) (z : Bool) (ho : Ok N m z) (hn : n = min N 2100) (Q : V → Heap → Prop) (hQ : Q (.bool true) [some ⟨.ro, scs n f ++ lc 78⟩, ivb f N z]) :
    VCall Tryz.prog G 11 [.sl 0 0 n (.exact (n + 1)), ivl 1 N m z] [some ⟨.ro, scs n f ++ lc 78⟩, ivb f N z] Q := by
  have ho' : Ok n m z := by rw [hn]; exact ok_min ho
  have hlen := lenO_ivl' (i := 1) ho'
  have hnN : n ≤ N := by omega
  have hnb : n ≤ 2100 := by omega
  have hfs : ∀ g, bfit g (some ⟨.ro, scs n f ++ lc 78⟩) (some ⟨.ro, scs n f ++ lc 78⟩) := fun g => bfit_same (by rw [rens_append, scs_rens, lc_rens])
  have hw1 : IntKind.i64.wrap ((n : Int) + 1) = ((n + 1 : Nat) : Int) := by rw [wrap_i64 (by omega) (by omega)]; omega
  have c1 : ((n + 1 : Nat) : Int) ≤ ((n + 1 : Nat) : Int) := Int.le_refl _
  have c2 : (0 : Int) ≤ ((n + 1 : Nat) : Int) := by omega
  have z78 : [V.int .u64 78, .int .u64 (nl 0), .int .u64 (nl 0), .int .u64 (nl 0)] = lc 78 := rfl
  refine vcall_body Tryz.func11 nm11 code11 nt11 ?_
  refine run_driveS 80 ?_
  simp only [go_sem, v11, v11_0, v11_1]
  refine run_call' rfl ?_
  simp only [go_sem, calV]
  refine cut_iv 1 N m z ho ?_
  rw [← hn]
  refine run_driveS 80 ?_
  simp only [go_sem, v11_2, v11_3, v11_10, hlen, hw1, eq_true c1, eq_true c2]
  refine run_rename [0, 1] (st' := ⟨[.sl 0 0 n (.exact (n + 1)), ivl 1 n m z, .unk, .unk, .bool false, .sl 0 0 (n + 1) (.exact (n + 1)), .int .i64 (0 : Nat)] ++ List.replicate 29 .unk, [some ⟨.ro, scs n f ++ lc 78⟩, ivb f N z]⟩) rfl (by simp) ?_ ?_ ?_ (run_for (fun i => ⟨[.sl 0 0 n (.exact (n + 1)), ivl 1 n m z, .unk, .unk, .bool false, .sl 0 0 (n + 1) (.exact (n + 1)), .int .i64 (i : Nat)] ++ List.replicate 29 .unk, [some ⟨.ro, scs n f ++ lc 78⟩, ivb f N z]⟩) n (fun i hi ih => ?_) ?_)
  · exact hfit_cons rfl (hfs _) (hfit_cons rfl bfit_ivb hfit_nil)
  · simp [uniq, wrB_ivb, wrB]
  · simp only [go_sem, hfit, lc_fit, scs_fit, fit, ren, gmap, lw_plain, true_or, or_true, ivl_ren]
  · have h0 : ((i : Int) < (n : Int)) = True := eq_true (by omega)
    have h1 : ((i : Int) < ((n + 1 : Nat) : Int)) = True := eq_true (by omega)
    have hw : IntKind.i64.wrap ((i : Int) + 1) = ((i + 1 : Nat) : Int) := by rw [wrap_i64 (by omega) (by omega)]; omega
    have g1 := scs_get n f (lc 78) (i := i) hi
    have g2 := scs_get' N f (i := i) (by omega)
    have q := lc_eqL (hf i) (hf i)
    have hq1 := ivl_pos (i := 1) ho' (by omega)
    have hq2 := ivb_pos (f := f) ho (by omega)
    rw [hq1, hq2] at ih ⊢
    refine run_loop_eq v11_9.eq_1 ?_
    refine run_driveS 80 ?_
    simp only [go_sem, v11_7, v11_4, lenO_sl, h0]
    refine run_drw (by kernel_rfl) ?_
    refine drun_drive 40 (p := (_, _)) ?_
    simp only [go_sem, v11_5, h0, h1, g1, g2, q, decide_true, restore, Option.join_some, maskH, List.mapIdx_cons, List.mapIdx_nil, List.contains_cons, List.contains_nil, Bool.or_false, Bool.or_true, Bool.false_or, Bool.true_or, Nat.reduceBEq]
    refine drun_end ?_
    refine run_driveS 80 ?_
    simp only [go_sem]
    refine run_cond_f (by rfl) ?_
    refine run_driveS 80 ?_
    simp only [go_sem, v11_8, hw]
    refine run_tmps ?_ ih
    simp only [go_sem, forg, true_or, or_true]
  · have h0 : ((n : Int) < (n : Int)) = False := eq_false (by omega)
    have h1 : ((n : Int) < ((n + 1 : Nat) : Int)) = True := eq_true (by omega)
    have g1 := scs_last n f 78
    have q := lc_eqL (A := 78) (B := 78) (by decide) (by decide)
    refine run_loop_eq v11_9.eq_1 ?_
    refine run_driveS 80 ?_
    simp only [go_sem, v11_4, hlen, h0]
    refine run_exit rfl ?_
    refine run_driveS 80 ?_
    simp only [go_sem, v11_11, hlen, h1, g1, z78, q, decide_true]
    refine run_ret_drop Tryz.func11 res11 [0, 1] (.bool true) _ rfl (by simp) ?_ ?_ ?_ hQ
    · exact hfit_cons rfl (hfs _) (hfit_cons rfl bfit_ivb hfit_nil)
    · simp [uniq, wrB_ivb, wrB]
    · simp only [go_sem, rr11, ren, gmap]
theorem lines_stay (f : Nat → Nat) (hf : ∀ j, f j < 115792089237316195423570985008687907853269984665640564039457584007913129639936) (N m n : Nat) (z : Bool) (ho : Ok N m z) (hn : n = min N 2100) (Q : V → Heap → Prop) (hQ : Q (.bool true) [some ⟨.ro, scs n f ++ lc 77⟩, ivb f N z]) :
    VCall Tryz.prog G 10 [.sl 0 0 n (.exact (n + 1)), ivl 1 N m z] [some ⟨.ro, scs n f ++ lc 77⟩, ivb f N z] Q := by
  have ho' : Ok n m z := by rw [hn]; exact ok_min ho
  have hlen := lenO_ivl' (i := 1) ho'
  have hnN : n ≤ N := by omega
  have hnb : n ≤ 2100 := by omega
  have hfs : ∀ g, bfit g (some ⟨.ro, scs n f ++ lc 77⟩) (some ⟨.ro, scs n f ++ lc 77⟩) := fun g => bfit_same (by rw [rens_append, scs_rens, lc_rens])
  have hw1 : IntKind.i64.wrap ((n : Int) + 1) = ((n + 1 : Nat) : Int) := by rw [wrap_i64 (by omega) (by omega)]; omega
  have c1 : ((n + 1 : Nat) : Int) ≤ ((n + 1 : Nat) : Int) := Int.le_refl _
  have c2 : (0 : Int) ≤ ((n + 1 : Nat) : Int) := by omega
  have z77 : [V.int .u64 (nl 77), .int .u64 (nl 0), .int .u64 (nl 0), .int .u64 (nl 0)] = lc 77 := rfl
  refine vcall_body Tryz.func10 nm10 code10 nt10 ?_
  refine run_driveS 80 ?_
  simp only [go_sem, v10, v10_0, v10_1]
  refine run_call' rfl ?_
  simp only [go_sem, calV]
  refine cut_iv 1 N m z ho ?_
  rw [← hn]
  refine run_driveS 80 ?_
  simp only [go_sem, v10_2, v10_3, v10_10, hlen, hw1, eq_true c1, eq_true c2]
  refine run_rename [0, 1] (st' := ⟨[.sl 0 0 n (.exact (n + 1)), ivl 1 n m z, .unk, .unk, .bool false, .sl 0 0 (n + 1) (.exact (n + 1)), .int .i64 (0 : Nat)] ++ List.replicate 31 .unk, [some ⟨.ro, scs n f ++ lc 77⟩, ivb f N z]⟩) rfl (by simp) ?_ ?_ ?_ (run_for (fun i => ⟨[.sl 0 0 n (.exact (n + 1)), ivl 1 n m z, .unk, .unk, .bool false, .sl 0 0 (n + 1) (.exact (n + 1)), .int .i64 (i : Nat)] ++ List.replicate 31 .unk, [some ⟨.ro, scs n f ++ lc 77⟩, ivb f N z]⟩) n (fun i hi ih => ?_) ?_)
  · exact hfit_cons rfl (hfs _) (hfit_cons rfl bfit_ivb hfit_nil)
  · simp [uniq, wrB_ivb, wrB]
  · simp only [go_sem, hfit, lc_fit, scs_fit, fit, ren, gmap, lw_plain, true_or, or_true, ivl_ren]
  · have h0 : ((i : Int) < (n : Int)) = True := eq_true (by omega)
    have h1 : ((i : Int) < ((n + 1 : Nat) : Int)) = True := eq_true (by omega)
    have hw : IntKind.i64.wrap ((i : Int) + 1) = ((i + 1 : Nat) : Int) := by rw [wrap_i64 (by omega) (by omega)]; omega
    have g1 := scs_get n f (lc 77) (i := i) hi
    have g2 := scs_get' N f (i := i) (by omega)
    have q := lc_eqL (hf i) (hf i)
    have hq1 := ivl_pos (i := 1) ho' (by omega)
    have hq2 := ivb_pos (f := f) ho (by omega)
    rw [hq1, hq2] at ih ⊢
    refine run_loop_eq v10_9.eq_1 ?_
    refine run_driveS 80 ?_
    simp only [go_sem, v10_7, v10_4, lenO_sl, h0]
    refine run_drw (by kernel_rfl) ?_
    refine drun_drive 40 (p := (_, _)) ?_
    simp only [go_sem, v10_5, h0, h1, g1, g2, restore, Option.join_some, maskH, List.mapIdx_cons, List.mapIdx_nil, List.contains_cons, List.contains_nil, Bool.or_false, Bool.or_true, Bool.false_or, Bool.true_or, Nat.reduceBEq]
    refine drun_call' ?_
    simp only [go_sem, calV, restore, Option.join_some, maskH, List.mapIdx_cons, List.mapIdx_nil, List.contains_cons, List.contains_nil, Bool.or_false, Bool.or_true, Bool.false_or, Bool.true_or, Nat.reduceBEq]
    refine line_ _ ?_
    refine drun_drive 40 (p := (_, _)) ?_
    simp only [go_sem, q, decide_true, restore, Option.join_some, maskH, List.mapIdx_cons, List.mapIdx_nil, List.contains_cons, List.contains_nil, Bool.or_false, Bool.or_true, Bool.false_or, Bool.true_or, Nat.reduceBEq]
    refine drun_end ?_
    refine run_driveS 80 ?_
    simp only [go_sem]
    refine run_cond_f (by rfl) ?_
    refine run_driveS 80 ?_
    simp only [go_sem, v10_8, hw]
    refine run_tmps ?_ ih
    simp only [go_sem, forg, true_or, or_true]
  · have h0 : ((n : Int) < (n : Int)) = False := eq_false (by omega)
    have h1 : ((n : Int) < ((n + 1 : Nat) : Int)) = True := eq_true (by omega)
    have g1 := scs_last n f 77
    have q := lc_eqL (A := 77) (B := 77) (by decide) (by decide)
    refine run_loop_eq v10_9.eq_1 ?_
    refine run_driveS 80 ?_
    simp only [go_sem, v10_4, hlen, h0]
    refine run_exit rfl ?_
    refine run_driveS 80 ?_
    simp only [go_sem]
    refine run_drw (by kernel_rfl) ?_
    refine drun_drive 40 (p := (_, _)) ?_
    simp only [go_sem, v10_11, hlen, h1, g1, z77, restore, Option.join_some, maskH, List.mapIdx_cons, List.mapIdx_nil, List.contains_cons, List.contains_nil, Bool.or_false, Bool.or_true, Bool.false_or, Bool.true_or, Nat.reduceBEq]
    refine drun_call' ?_
    simp only [go_sem, calV, restore, Option.join_some, maskH, List.mapIdx_cons, List.mapIdx_nil, List.contains_cons, List.contains_nil, Bool.or_false, Bool.or_true, Bool.false_or, Bool.true_or, Nat.reduceBEq]
    refine line_ 77 ?_
    refine drun_drive 40 (p := (_, _)) ?_
    simp only [go_sem, q, decide_true, restore, Option.join_some, maskH, List.mapIdx_cons, List.mapIdx_nil, List.contains_cons, List.contains_nil, Bool.or_false, Bool.or_true, Bool.false_or, Bool.true_or, Nat.reduceBEq]
    refine drun_end ?_
    refine run_driveS 80 ?_
    simp only [go_sem]
    refine run_ret_drop Tryz.func10 res10 [0, 1] (.bool true) _ rfl (by simp) ?_ ?_ ?_ hQ
    · exact hfit_cons rfl (hfs _) (hfit_cons rfl bfit_ivb hfit_nil)
    · simp [uniq, wrB_ivb, wrB]
    · simp only [go_sem, rr10, ren, gmap]
end
section
attribute [local go_sem ↓] lc_len lc_take lc_drop lc_known lc_one lc_rens lc_cells lw_known lw_agg lw_asG scs_known scs_one scs_len
attribute [local go_sem] lt_nat lt_natl lt_lnat lt_ll bool_tf bool_ft
attribute [local go_sem ↓] ecs_len ecs_take ecs_drop ecs_known ecs_one ecs_rens ecs_fit ecs_cells ew_known ew_agg ew_asG ecs_kind ecs_k ecs_l ers_known ers_one ers_len ers_rens ers_fit
attribute [local go_sem ↓] ecs_take_add ecs_drop_add lc_take_add lc_drop_add lenO_de lenO_dv de_known dv_known de_one dv_one de_ren dv_ren
set_option maxRecDepth 100000
set_option maxHeartbeats 1000000
theorem neutral_ {h : Heap} {R : V → Heap → Prop} (hQ : R (ew 0) h) : VCall Tryz.prog G 40 [.int .i64 2] h R := by
  refine vcall_plain (Q := fun v => v = ew 0) ?_ (fun g => by simp only [rens, ren]) (fun v g hv => by subst hv; exact ew_plain _ g) (fun v hv => by subst hv; exact hQ)
  refine vcall_body Tryz.func40 nm40 code40 nt40 ?_
  refine run_driveS 80 ?_
  simp only [go_sem, v40, v40_0, v40_1]
  refine run_ret_drop Tryz.func40 res40 [] (ew 0) [] rfl (by simp) trivial (by simp [uniq]) ?_ ⟨rfl, rfl⟩
  simp only [go_sem, rr40, ew_plain]
  rfl
theorem is_neutral (k : Nat) (hk : k < 115792089237316195423570985008687907853269984665640564039457584007913129639936) {h : Heap} {R : V → Heap → Prop} (hQ : R (.bool (decide (k = 0))) h) : VCall Tryz.prog G 23 [ew k] h R := by
  refine vcall_plain (Q := fun v => v = .bool (decide (k = 0))) ?_ (fun g => by simp only [rens, ew_plain]) (fun v g hv => by subst hv; rfl) (fun v hv => by subst hv; exact hQ)
  refine vcall_body Tryz.func23 nm23 code23 nt23 ?_
  refine run_driveS 80 ?_
  simp only [go_sem, v23, v23_0]
  refine run_drw (by kernel_rfl) ?_
  refine drun_drive 40 (p := (_, _)) ?_
  simp only [go_sem, v23_1, restore, Option.join_some, maskH, List.mapIdx_cons, List.mapIdx_nil, List.contains_cons, List.contains_nil, Bool.or_false, Bool.or_true, Bool.false_or, Bool.true_or, Nat.reduceBEq]
  refine drun_call' ?_
  simp only [go_sem, calV, restore, Option.join_some, maskH, List.mapIdx_cons, List.mapIdx_nil, List.contains_cons, List.contains_nil, Bool.or_false, Bool.or_true, Bool.false_or, Bool.true_or, Nat.reduceBEq]
  refine neutral_ ?_
  refine drun_drive 40 (p := (_, _)) ?_
  simp only [go_sem, restore, Option.join_some, maskH, List.mapIdx_cons, List.mapIdx_nil, List.contains_cons, List.contains_nil, Bool.or_false, Bool.or_true, Bool.false_or, Bool.true_or, Nat.reduceBEq]
  refine drun_call' ?_
  simp only [go_sem, calV, restore, Option.join_some, maskH, List.mapIdx_cons, List.mapIdx_nil, List.contains_cons, List.contains_nil, Bool.or_false, Bool.or_true, Bool.false_or, Bool.true_or, Nat.reduceBEq]
  refine e_same _ _ hk (by decide) ?_
  refine drun_drive 40 (p := (_, _)) ?_
  simp only [go_sem, restore, Option.join_some, maskH, List.mapIdx_cons, List.mapIdx_nil, List.contains_cons, List.contains_nil, Bool.or_false, Bool.or_true, Bool.false_or, Bool.true_or, Nat.reduceBEq]
  refine drun_end ?_
  refine run_driveS 80 ?_
  simp only [go_sem]
  refine run_ret_drop Tryz.func23 res23 [] (.bool (decide (k = 0))) [] rfl (by simp) trivial (by simp [uniq]) ?_ ⟨rfl, rfl⟩
  simp only [go_sem, rr23, ren]
theorem verify_ref (us Lf Rf g0 h0 : Nat → Nat) (hus : ∀ j, us j < ell) (hL : ∀ j, Lf j < 115792089237316195423570985008687907853269984665640564039457584007913129639936) (hR : ∀ j, Rf j < 115792089237316195423570985008687907853269984665640564039457584007913129639936) (hg : ∀ j, g0 j < 115792089237316195423570985008687907853269984665640564039457584007913129639936) (hh : ∀ j, h0 j < 115792089237316195423570985008687907853269984665640564039457584007913129639936) (P Q' a b nG nH nL nR nU : Nat) (hP : P < ell) (hQ' : Q' < 115792089237316195423570985008687907853269984665640564039457584007913129639936) (ha : a < 115792089237316195423570985008687907853269984665640564039457584007913129639936) (hb : b < 115792089237316195423570985008687907853269984665640564039457584007913129639936) (Q : V → Heap → Prop)
    (hQ2 : (∀ k, ¬ Fit nG nH nL nR nU k) → Q (.int .i64 2) [rob us nU, eb g0 nG, eb h0 nH, eb Lf nL, eb Rf nR])
    (hQ4 : ∀ k, Fit nG nH nL nR nU k → (∃ j, j < k ∧ us j = 0) → Q (.int .i64 4) [rob us nU, eb g0 nG, eb h0 nH, eb Lf nL, eb Rf nR])
    (hQ0 : ∀ k, Fit nG nH nL nR nU k → (∀ j, j < k → us j ≠ 0) → Q (.int .i64 (if lf us Lf Rf g0 h0 k P Q' a b = 0 then 0 else 120)) [rob us nU, eb g0 nG, eb h0 nH, eb Lf nL, eb Rf nR]) :
    VCall Tryz.prog G 8 [stE P Q' (de 1 nG) (de 2 nH), arE (de 3 nL) (de 4 nR) a b, dv 0 nU] [rob us nU, eb g0 nG, eb h0 nH, eb Lf nL, eb Rf nR] Q := by
  have fin : ∀ (n : Int) (st : St) (hp : List (Option Blk)) (K : List TI), Q (.int .i64 n) [rob us nU, eb g0 nG, eb h0 nH, eb Lf nL, eb Rf nR] → st.heap = rob us nU :: eb g0 nG :: eb h0 nH :: eb Lf nL :: eb Rf nR :: hp → st.tmps[6]? = some (.int .i64 n) → Run Tryz.prog G 8 5 Q (.c .ret :: K, st) := by
    intro n st hp K hq he ht
    refine run_ret_drop Tryz.func8 res8 [0, 1, 2, 3, 4] (.int .i64 n) _ rfl (by simp) ?_ ?_ ?_ hq
    · rw [he]
      exact hfit_cons rfl bfit_rob (hfit_cons rfl bfit_eb' (hfit_cons rfl bfit_eb' (hfit_cons rfl bfit_eb' (hfit_cons rfl bfit_eb' hfit_nil))))
    · exact uniq_nodup (by decide)
    · simp only [go_sem, rr8, ren, List.getD_eq_getElem?_getD, ht, Option.getD_some]
  have hl := ell_lt
  refine vcall_body Tryz.func8 nm8 code8 nt8 ?_
  unfold stE arE
  refine run_driveS 80 ?_
  simp only [go_sem, v8, v8_0, v8_1]
  refine run_call' rfl ?_
  simp only [go_sem, calV]
  refine vcall_at (fits_ref P Q' a b nG nH nL nR nU us (fun j => Nat.lt_trans (hus j) hl) (fun v k => k = [rob us nU, none, none, none, none] ∧ (((∀ k, ¬ Fit nG nH nL nR nU k) ∧ v = .int .i64 2) ∨ (∃ m, Fit nG nH nL nR nU m ∧ (∃ j, j < m ∧ us j = 0) ∧ v = .int .i64 4) ∨ (∃ m, Fit nG nH nL nR nU m ∧ (∀ j, j < m → us j ≠ 0) ∧ v = .int .i64 0)))
    (fun e => ⟨rfl, .inl ⟨e, rfl⟩⟩) (fun m e1 e2 => ⟨rfl, .inr (.inl ⟨m, e1, e2, rfl⟩)⟩) (fun m e1 e2 => ⟨rfl, .inr (.inr ⟨m, e1, e2, rfl⟩)⟩)) [0, 1, 2, 3, 4] (by simp) ?_ ?_ ?_ ?_
  · exact hfit_cons rfl bfit_rob (hfit_cons_none (hfit_cons_none (hfit_cons_none (hfit_cons_none hfit_nil))))
  · exact uniq_nodup (by decide)
  · simp only [rens, ren, gmap, stE, arE, rens_append, lc_rens, ecs_rens, de_ren, dv_ren]
  rintro v l ⟨rfl, hcase⟩
  rw [puts_ro (by simp [wrB_rob, wrB_none]) rfl (by simp)]
  simp only [List.drop_succ_cons, List.drop_zero, List.length_cons, List.length_nil, List.map_nil, List.append_nil, Nat.reduceAdd]
  rcases hcase with ⟨f1, rfl⟩ | ⟨m, f1, f2, rfl⟩ | ⟨k, f1, f2, rfl⟩
  · refine run_driveS 80 ?_
    simp only [go_sem, v8_2]
    refine run_cond_t (by rfl) ?_
    refine run_driveS 80 ?_
    simp only [go_sem, v8_3]
    exact fin 2 _ _ _ (hQ2 f1) rfl rfl
  · refine run_driveS 80 ?_
    simp only [go_sem, v8_2]
    refine run_cond_t (by rfl) ?_
    refine run_driveS 80 ?_
    simp only [go_sem, v8_3]
    exact fin 4 _ _ _ (hQ4 m f1 f2) rfl rfl
  have hq := hQ0 k f1 f2
  clear hQ0 hQ2 hQ4
  obtain ⟨rfl, hk, rfl, rfl, rfl, rfl⟩ := f1
  have hp0 := Nat.two_pow_pos nU
  refine run_driveS 80 ?_
  simp only [go_sem, v8_2]
  refine run_cond_f (by rfl) ?_
  refine run_driveS 80 ?_
  simp only [go_sem, v8_4]
  refine run_call' rfl ?_
  simp only [go_sem, calV]
  refine vcall_at (left_ref us Lf Rf g0 h0 nU P Q' a b hk hus f2 hL hR hg hh hP hQ' ha hb (fun v k => v = ew (lf us Lf Rf g0 h0 nU P Q' a b) ∧ k = [rob us nU, some ⟨.ro, ers (2 ^ nU) g0⟩, some ⟨.ro, ers (2 ^ nU) h0⟩, eb Lf nU, eb Rf nU]) ⟨rfl, rfl⟩) [0, 1, 2, 3, 4] (by simp) ?_ ?_ ?_ ?_
  · rw [eb_pos hp0, eb_pos hp0]
    exact hfit_cons rfl bfit_rob (hfit_cons rfl (bfit_same (ers_rens ..)) (hfit_cons rfl (bfit_same (ers_rens ..)) (hfit_cons rfl bfit_eb' (hfit_cons rfl bfit_eb' hfit_nil))))
  · exact uniq_nodup (by decide)
  · simp only [rens, ren, gmap, stE, arE, rens_append, lc_rens, ecs_rens, de_ren, dv_ren, de_pos hp0]
  rintro v l ⟨rfl, rfl⟩
  rw [puts_ro (by simp [wrB_rob, wrB_eb, wrB_ro]) rfl (by simp)]
  simp only [List.drop_succ_cons, List.drop_zero, List.length_cons, List.length_nil, List.map_nil, List.append_nil, Nat.reduceAdd, ew_plain]
  refine run_driveS 80 ?_
  simp only [go_sem]
  refine run_call' rfl ?_
  simp only [go_sem, calV]
  refine is_neutral (lf us Lf Rf g0 h0 nU P Q' a b) (Nat.lt_trans (mod_lt' _) hl) ?_
  refine run_driveS 80 ?_
  simp only [go_sem]
  by_cases he : lf us Lf Rf g0 h0 nU P Q' a b = 0
  · rw [if_pos he] at hq
    refine run_cond_f (by simp only [go_sem, decide_eq_true he]) ?_
    refine run_driveS 80 ?_
    simp only [go_sem, v8_6]
    exact fin 0 _ _ _ hq rfl rfl
  · rw [if_neg he] at hq
    refine run_cond_t (by simp only [go_sem, decide_eq_false he]) ?_
    refine run_driveS 80 ?_
    simp only [go_sem, v8_5]
    exact fin 120 _ _ _ hq rfl rfl
end
end Go.Vs.Tryz
namespace Go.Vs.Tryz
theorem pf1_mod (P L R U : Nat) : pf1 (P % ell) (L % ell) (R % ell) (U % ell) = pf1 P L R U := by
  unfold pf1
  rw [linv_mod']
  have h1 : L % ell * (U % ell * (U % ell) % ell) % ell = L * (U * U % ell) % ell := by
    rw [Nat.mod_mul_mod, ← Nat.mul_mod U U ell]
  rw [h1, Nat.mod_mul_mod, Nat.add_mod_mod (L * (U * U % ell) % ell) P ell]
theorem pl_Ps (us L R : Nat → Nat) (P N : Nat) : ∀ t, t ≤ N → pl (fun j => L j % ell) (fun j => R j % ell) (fun j => us j % ell) N (N - t) (Ps us L R P t % ell) = pl (fun j => L j % ell) (fun j => R j % ell) (fun j => us j % ell) N N (P % ell)
  | 0, _ => rfl
  | t + 1, h => by
    rw [← pl_Ps us L R P N t (by omega)]
    rw [show N - t = N - (t + 1) + 1 by omega, pl]
    congr 1
    rw [show N - 1 - (N - (t + 1)) = t by omega]
    show Ps us L R P (t + 1) % ell = pf1 (Ps us L R P t % ell) (L t % ell) (R t % ell) (us t % ell)
    rw [pf1_mod, Ps, Nat.mod_eq_of_lt (pf1_lt ..)]
theorem pl_end (us L R : Nat → Nat) (P N : Nat) : pl (fun j => L j % ell) (fun j => R j % ell) (fun j => us j % ell) N N (P % ell) = Ps us L R P N % ell := by
  have h := pl_Ps us L R P N N (Nat.le_refl _)
  rw [Nat.sub_self, pl] at h
  exact h.symm
theorem gl_mod (a b g : Nat → Nat) (N : Nat) : gl a b N N (fun j => g j % ell) 0 % ell = gl a b N N g 0 % ell := by
  rw [gl_sum, gl_sum]
  exact sm_congr fun j _ => Nat.mul_mod_mod ..
theorem gl_endG (us g : Nat → Nat) (N : Nat) : gl (fun t => linv (us t % ell)) (fun t => us t % ell) N N (fun j => g j % ell) 0 % ell = Gs us g N N 0 % ell := by
  rw [gl_mod]
  have h := gl_Gs (fun i => linv (us i % ell)) (fun i => us i % ell) us g (fun i => by rw [linv_mod', Nat.mod_eq_of_lt (linv_lt _)]) (fun i => Nat.mod_mod _ _) N N (Nat.le_refl _)
  rw [Nat.sub_self, gl] at h
  rw [h]
theorem gl_endH (us g : Nat → Nat) (N : Nat) : gl (fun t => us t % ell) (fun t => linv (us t % ell)) N N (fun j => g j % ell) 0 % ell = Hs us g N N 0 % ell := by
  rw [gl_mod]
  have h := gl_Hs (fun i => linv (us i % ell)) (fun i => us i % ell) us g (fun i => by rw [linv_mod', Nat.mod_eq_of_lt (linv_lt _)]) (fun i => Nat.mod_mod _ _) N N (Nat.le_refl _)
  rw [Nat.sub_self, gl] at h
  rw [h]
theorem f_ver {p : Nat} [NeZero p] (q g h a b P o : _root_.Fin p) (ho : o = 1) : (P + ((g * a + h * b) + q * (a * b)) * (-o) = 0) ↔ ((q * (a * b) + g * a) + h * b = P) := by
  constructor <;> intro e <;> grind
theorem ver_iff (us L R g h : Nat → Nat) (N P Q' a b : Nat) : (im1 Q' (Gs us g N N 0) (Hs us h N N 0) a b % ell = Ps us L R P N % ell) ↔ lf (fun j => us j % ell) (fun j => L j % ell) (fun j => R j % ell) (fun j => g j % ell) (fun j => h j % ell) N (P % ell) (Q' % ell) (a % ell) (b % ell) = 0 := by
  have k : ∀ x, x % ell = 0 ↔ cF x = 0 := fun x => by
    rw [← cF_zero, cF_iff, Nat.zero_mod]
  unfold lf im1
  rw [k, ← cF_iff]
  simp only [cF_add, cF_mul, cF_mod, cF_m1, pl_end]
  have eG := cF_iff.2 (gl_endG us g N)
  have eH := cF_iff.2 (gl_endH us h N)
  rw [eG, eH]
  exact (f_ver _ _ _ _ _ _ _ cF_one).symm
end Go.Vs.Tryz
