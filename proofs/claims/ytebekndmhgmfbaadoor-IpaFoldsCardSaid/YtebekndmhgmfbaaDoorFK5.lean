/- Text 5 of 5 of this claim: a machine of plain values beside the model, what the functions of the program and of the reference answer over it, and last the row and its card. -/
import Derived.Test.YtebekndmhgmfbaaDoorFK4
import Derived.Test.YtebekndmhgmfbaaDoorFK2
import Derived.WalkKit
import Derived.ProofKit
import Derived.Carry
import Derived.Lay
import Derived.SevenTiedAt
import Derived.Deep.Slices
import Derived.OpenShut
import Derived.Test.YtebekndmhgmfbaaDoorCards
import Derived.Test.YtebekndmhgmfbaaDoorTie
import Derived.Conc.Holds
set_option linter.unusedVariables false
set_option linter.unusedSimpArgs false
namespace Go.Vs.Tryd
def sm (t : Nat → Nat) : Nat → Nat
  | 0 => 0
  | n + 1 => (sm t n + t n) % ell
theorem sm_lt (t : Nat → Nat) : ∀ n, sm t n < ell
  | 0 => ell_pos
  | n + 1 => mod_lt' _
theorem sm_congr {t t' : Nat → Nat} : ∀ {n}, (∀ j, j < n → t j % ell = t' j % ell) → sm t n = sm t' n
  | 0, _ => rfl
  | n + 1, h => by rw [sm, sm, sm_congr (n := n) fun j hj => h j (by omega), Nat.add_mod, h n (Nat.lt_succ_self n), ← Nat.add_mod]
theorem add_l (a b : Nat) : (a % ell + b) % ell = (a + b) % ell := Nat.mod_add_mod a ell b
theorem add_r (a b : Nat) : (a + b % ell) % ell = (a + b) % ell := Nat.add_mod_mod a b ell
theorem sm_split (t : Nat → Nat) (m : Nat) : ∀ n, sm t (m + n) = (sm t m + sm (fun j => t (m + j)) n) % ell
  | 0 => by rw [Nat.add_zero, sm, Nat.add_zero, Nat.mod_eq_of_lt (sm_lt t m)]
  | n + 1 => by rw [← Nat.add_assoc, sm, sm_split t m n, sm, add_l, add_r, Nat.add_assoc]
theorem sm_add (a b : Nat → Nat) : ∀ n, (sm a n + sm b n) % ell = sm (fun j => a j + b j) n
  | 0 => rfl
  | n + 1 => by
    rw [sm, sm, sm, ← sm_add a b n, add_l, add_r, add_l]
    congr 1
    omega
def fo (a b : Nat → Nat) (n k : Nat) (g : Nat → Nat) : Nat → Nat := fun j => (g j * a (n - 1 - k) + g (j + 2 ^ k) * b (n - 1 - k)) % ell
def gl (a b : Nat → Nat) (n : Nat) : Nat → (Nat → Nat) → Nat → Nat
  | 0, g => g
  | k + 1, g => gl a b n k (fo a b n k g)
def wt (a b : Nat → Nat) (n : Nat) : Nat → Nat → Nat
  | 0, _ => 1
  | k + 1, j => if j < 2 ^ k then wt a b n k j * a (n - 1 - k) % ell else wt a b n k (j - 2 ^ k) * b (n - 1 - k) % ell
theorem wt_lt (a b : Nat → Nat) (n : Nat) : ∀ k j, wt a b n k j < ell
  | 0, _ => show 1 < ell by decide
  | k + 1, j => by
    unfold wt
    split <;> exact mod_lt' _
theorem gl_sum (a b : Nat → Nat) (n : Nat) : ∀ k g, gl a b n k g 0 % ell = sm (fun j => wt a b n k j * g j) (2 ^ k)
  | 0, g => by
    show g 0 % ell = sm _ (0 + 1)
    rw [sm, sm, wt, Nat.one_mul, Nat.zero_add]
  | k + 1, g => by
    show gl a b n k (fo a b n k g) 0 % ell = _
    rw [gl_sum a b n k, show 2 ^ (k + 1) = 2 ^ k + 2 ^ k by rw [Nat.pow_succ]; omega, sm_split, sm_add]
    refine sm_congr fun j hj => ?_
    rw [wt, if_pos hj, wt, if_neg (by omega), Nat.add_sub_cancel_left]
    unfold fo
    rw [mmod', Nat.mul_add, Nat.add_comm (2 ^ k) j, ← add_l, ← add_r]
    conv => rhs; rw [← add_l, ← add_r, mmod, mmod]
    congr 2
    · congr 1
      rw [Nat.mul_right_comm, Nat.mul_assoc]
    · congr 1
      rw [Nat.mul_right_comm, Nat.mul_assoc]
theorem linv_mul' (x y : Nat) : linv (x * y) = linv x * linv y % ell := by
  rw [linv_eq, linv_eq, linv_eq, Nat.mul_pow, Nat.mul_mod]
theorem linv_mod' (a : Nat) : linv (a % ell) = linv a := by rw [linv_eq, linv_eq, ← Nat.pow_mod]
theorem linv_linv {a : Nat} (h : a % ell ≠ 0) : linv (linv a) = a % ell := by
  symm
  refine linv_of (mod_lt' a) ?_
  rw [mmod, Nat.mul_comm, linv_mul h]
theorem linv_one : linv 1 = 1 := (linv_of (by decide) (by decide)).symm
theorem wt_linv (a b a' b' : Nat → Nat) (n : Nat) : ∀ k, (∀ i, i < k → a' (n - 1 - i) % ell = linv (a (n - 1 - i)) ∧ b' (n - 1 - i) % ell = linv (b (n - 1 - i))) → ∀ j, wt a' b' n k j = linv (wt a b n k j)
  | 0, _, j => by rw [wt, wt, linv_one]
  | k + 1, h, j => by
    have ih := wt_linv a b a' b' n k fun i hi => h i (by omega)
    obtain ⟨h1, h2⟩ := h k (Nat.lt_succ_self k)
    unfold wt
    split
    · rw [linv_mod', linv_mul', ih, ← h1, mmod']
    · rw [linv_mod', linv_mul', ih, ← h2, mmod']
end Go.Vs.Tryd
namespace Go.Vs.Tryd
open Go.Proofs
variable {G : Nat → List V}
set_option linter.unusedSimpArgs false
attribute [local go_sem] lenO_nils lenO_sl sliceAtV Int.sub_zero List.length_append List.all_append ge_iff_le gt_iff_lt Int.natCast_nonneg Int.toNat_natCast Nat.mul_one b_and_ll b_shr_ll b_mul_ll b_add_ll b_or_ll b_shl_ll pick_ll pick_lc pick_bb driveS stopV Option.isSome_some Option.isSome_none Kind.m Kind.w Kind.g look_ro look_rw look_grow drive stepV exo expo evs fillV isNil nilKind eqV eqL optA optM sliceAtV ev kn ldc stc splice appV srcV lenV setd wantV exitV rvs rv one List.length_cons List.length_nil List.cons_append List.nil_append List.append_nil List.replicate List.getD_cons_zero List.getD_cons_succ List.set_cons_zero List.set_cons_succ List.getElem?_cons_zero List.getElem?_cons_succ List.getElem?_nil List.take_succ_cons List.take_zero List.take_nil List.drop_succ_cons List.drop_zero List.drop_nil List.all_cons List.all_nil List.any_cons List.any_nil Bool.and_true Bool.true_and Bool.and_self Option.map_some Option.map_none Option.bind_some Option.some.injEq Nat.add_zero Nat.zero_add Int.toNat_zero Int.toNat_one Int.zero_add Int.add_zero if_true if_false ite_true ite_false and_true true_and and_self ne_eq not_false_eq_true not_true_eq_false decide_true decide_false Bool.false_eq_true Bool.not_true Bool.not_false beq_self_eq_true BEq.rfl Bool.not_eq_true Nat.le_refl Int.le_refl Nat.zero_le List.foldl List.map_cons List.map_nil Prod.mk.injEq Int.cast_ofNat_Int Int.zero_le_ofNat b_add_cc b_add_cl b_add_lc b_mul_cc b_mul_cl b_mul_lc b_sub_cc b_sub_cl b_sub_lc b_and_cc b_and_cl b_and_lc b_or_cc b_or_cl b_or_lc b_xor_cc b_xor_cl b_xor_lc b_andNot_cc b_andNot_cl b_andNot_lc b_shr_cc b_shr_cl b_shr_lc b_shl_cc b_shl_cl b_shl_lc b_lss b_leq b_gtr b_geq b_add_i b_sub_i b_mul_i beq_cc beq_cl beq_lc beq_ll b_quo_i b_rem_i neg_u64 wrap_i64 driveD stepD idsAt idOf maskH_nil restore_nil restore_mask List.filterMap_nil List.filterMap_cons VOp.looks VOp.makes exA cells_agg cells_int cells_bool cells_str cells_nilp cells_ptr cells_glob cells_nils cells_sl cells_nilf cells_fn cells_nili cells_ifc known_agg known_tup known_int known_bool known_str known_nilp known_ptr known_glob known_nils known_sl known_nilf known_fn known_nili known_ifc known_unk one_agg one_tup one_int one_bool one_str one_nilp one_ptr one_glob one_nils one_sl one_nilf one_fn one_nili one_ifc asK_int asN_int asB_bool asS_str asG_agg asT_tup
section
attribute [local go_sem ↓] lc_len lc_take lc_drop lc_known lc_one lc_rens lc_cells lw_known lw_agg lw_asG scs_known scs_one scs_len
attribute [local go_sem] lt_nat lt_natl lt_lnat lt_ll bool_tf bool_ft
attribute [local go_sem ↓] ecs_rens
attribute [local go_sem ↓] lc_take_add lc_drop_add lenO_dv dv_known dv_one dv_ren
set_option maxRecDepth 100000
set_option maxHeartbeats 1000000
noncomputable def pl (Lf Rf us : Nat → Nat) (N : Nat) : Nat → Nat → Nat
  | 0, P => P
  | m + 1, P => pl Lf Rf us N m (((Lf (N - 1 - m) * (us (N - 1 - m) * us (N - 1 - m) % ell) % ell + P) % ell + Rf (N - 1 - m) * (linv (us (N - 1 - m)) * linv (us (N - 1 - m)) % ell) % ell) % ell)
theorem wrB_none : wrB none = false := rfl
theorem wrB_rob (f : Nat → Nat) (n : Nat) : wrB (rob f n) = false := by unfold rob; split <;> rfl
end
section
attribute [local go_sem ↓] lc_len lc_take lc_drop lc_known lc_one lc_rens lc_cells lw_known lw_agg lw_asG scs_known scs_one scs_len
attribute [local go_sem ↓] lc_take_add lc_drop_add lct8 lcne
attribute [local go_sem] bool_tf bool_ft
set_option maxRecDepth 100000
set_option maxHeartbeats 1000000
def t3 (n : Nat) (x : Nat) (y z : Nat → Nat) (j : Nat) : Nat := if j = 0 then x else if j < 1 + n then y (j - 1) else z (j - 1 - n)
end
section
attribute [local go_sem ↓] lc_len lc_take lc_drop lc_known lc_one lc_rens lc_cells lw_known lw_agg lw_asG scs_known scs_one scs_len
attribute [local go_sem] lt_nat lt_natl lt_lnat lt_ll bool_tf bool_ft
attribute [local go_sem ↓] ecs_rens
set_option maxRecDepth 100000
set_option maxHeartbeats 1000000
def ivl (i n m : Nat) (z : Bool) : V := if z = true then .nils else .sl i 0 n (.exact m)
def ivb (f : Nat → Nat) (n : Nat) (z : Bool) : Option Blk := if z = true then none else some ⟨.ro, scs n f⟩
def Ok (n m : Nat) (z : Bool) : Prop := n ≤ m ∧ (z = true → n = 0)
theorem In_iv {f : Nat → Nat} {n m : Nat} {z : Bool} (h : Ok n m z) : In f n (ivl 0 n m z) (ivb f n z) := by
  cases z
  · exact In.sl n m h.1
  · obtain rfl := h.2 rfl
    exact In.nil
theorem ivl_ren (i n m : Nat) (z : Bool) (g : Nat → Nat) : ren g (ivl i n m z) = ivl (g i) n m z := by cases z <;> rfl
theorem ivl_known (i n m : Nat) (z : Bool) : (ivl i n m z).known = true := by cases z <;> rfl
theorem wrB_ivb (f : Nat → Nat) (n : Nat) (z : Bool) : wrB (ivb f n z) = false := by cases z <;> rfl
attribute [local go_sem ↓] ivl_known lc_take_add lc_drop_add
theorem puts_ro {g : Nat → Nat} : ∀ {h' h'' : Heap} {μ : List Nat} {h : Heap}, h'.all (fun b => !wrB b) = true → h'.length = μ.length → h'.length ≤ h''.length → puts g h' h'' μ h = h ++ (h''.drop h'.length).map (Option.map (renB g))
  | [], h'', μ, h, _, _, _ => by simp [puts]
  | b :: h', [], μ, h, _, _, h3 => by simp at h3
  | b :: h', c :: h'', [], h, _, h2, _ => by simp at h2
  | b :: h', c :: h'', i :: μ, h, h1, h2, h3 => by
    simp only [List.all_cons, Bool.and_eq_true, Bool.not_eq_true'] at h1
    simp only [puts, h1.1, Bool.false_eq_true, if_false, List.length_cons, List.drop_succ_cons]
    exact puts_ro h1.2 (by simpa using h2) (by simpa using h3)
def bfit (g : Nat → Nat) : Option Blk → Option Blk → Prop
  | none, _ => True
  | some b1, some b => (b1.kind = b.kind ∨ b1.kind = .ro ∧ b.kind.m = true) ∧ fit g b1.cells b.cells
  | some _, none => False
theorem hfit_cons {g : Nat → Nat} {h : Heap} {i : Nat} {μ : List Nat} {b : Option Blk} {h' : Heap} {c : Option Blk} (hc : h[i]? = some c) (hb : bfit g b c) (hr : hfit g h μ h') : hfit g h (i :: μ) (b :: h') := by
  cases b with
  | none => exact ⟨trivial, hr⟩
  | some b1 =>
    cases c with
    | none => exact hb.elim
    | some c => simp only [hfit, hc]; exact ⟨hb, hr⟩
theorem hfit_cons_none {g : Nat → Nat} {h : Heap} {i : Nat} {μ : List Nat} {h' : Heap} (hr : hfit g h μ h') : hfit g h (i :: μ) (none :: h') := ⟨trivial, hr⟩
theorem hfit_nil {g : Nat → Nat} {h : Heap} : hfit g h [] [] := trivial
theorem bfit_same {g : Nat → Nat} {k : Kind} {c : List V} (h : rens g c = c) (hk : k.m = true := by rfl) : bfit g (some ⟨.ro, c⟩) (some ⟨k, c⟩) := ⟨.inr ⟨rfl, hk⟩, fit_same h⟩
theorem bfit_ivb {g f : Nat → Nat} {n : Nat} {z : Bool} : bfit g (ivb f n z) (ivb f n z) := by
  cases z
  · exact bfit_same (scs_rens ..)
  · trivial
end
end Go.Vs.Tryd
namespace Go.Vs.Tryd
open Go.Proofs
variable {G : Nat → List V}
set_option linter.unusedSimpArgs false
attribute [local go_sem] lenO_nils lenO_sl sliceAtV Int.sub_zero List.length_append List.all_append ge_iff_le gt_iff_lt Int.natCast_nonneg Int.toNat_natCast Nat.mul_one b_and_ll b_shr_ll b_mul_ll b_add_ll b_or_ll b_shl_ll pick_ll pick_lc pick_bb driveS stopV Option.isSome_some Option.isSome_none Kind.m Kind.w Kind.g look_ro look_rw look_grow drive stepV exo expo evs fillV isNil nilKind eqV eqL optA optM sliceAtV ev kn ldc stc splice appV srcV lenV setd wantV exitV rvs rv one List.length_cons List.length_nil List.cons_append List.nil_append List.append_nil List.replicate List.getD_cons_zero List.getD_cons_succ List.set_cons_zero List.set_cons_succ List.getElem?_cons_zero List.getElem?_cons_succ List.getElem?_nil List.take_succ_cons List.take_zero List.take_nil List.drop_succ_cons List.drop_zero List.drop_nil List.all_cons List.all_nil List.any_cons List.any_nil Bool.and_true Bool.true_and Bool.and_self Option.map_some Option.map_none Option.bind_some Option.some.injEq Nat.add_zero Nat.zero_add Int.toNat_zero Int.toNat_one Int.zero_add Int.add_zero if_true if_false ite_true ite_false and_true true_and and_self ne_eq not_false_eq_true not_true_eq_false decide_true decide_false Bool.false_eq_true Bool.not_true Bool.not_false beq_self_eq_true BEq.rfl Bool.not_eq_true Nat.le_refl Int.le_refl Nat.zero_le List.foldl List.map_cons List.map_nil Prod.mk.injEq Int.cast_ofNat_Int Int.zero_le_ofNat b_add_cc b_add_cl b_add_lc b_mul_cc b_mul_cl b_mul_lc b_sub_cc b_sub_cl b_sub_lc b_and_cc b_and_cl b_and_lc b_or_cc b_or_cl b_or_lc b_xor_cc b_xor_cl b_xor_lc b_andNot_cc b_andNot_cl b_andNot_lc b_shr_cc b_shr_cl b_shr_lc b_shl_cc b_shl_cl b_shl_lc b_lss b_leq b_gtr b_geq b_add_i b_sub_i b_mul_i beq_cc beq_cl beq_lc beq_ll b_quo_i b_rem_i neg_u64 wrap_i64 driveD stepD idsAt idOf maskH_nil restore_nil restore_mask List.filterMap_nil List.filterMap_cons VOp.looks VOp.makes exA cells_agg cells_int cells_bool cells_str cells_nilp cells_ptr cells_glob cells_nils cells_sl cells_nilf cells_fn cells_nili cells_ifc known_agg known_tup known_int known_bool known_str known_nilp known_ptr known_glob known_nils known_sl known_nilf known_fn known_nili known_ifc known_unk one_agg one_tup one_int one_bool one_str one_nilp one_ptr one_glob one_nils one_sl one_nilf one_fn one_nili one_ifc asK_int asN_int asB_bool asS_str asG_agg asT_tup true_or or_true false_or or_false
section
attribute [local go_sem ↓] lc_len lc_take lc_drop lc_known lc_one lc_rens lc_cells lw_known lw_agg lw_asG scs_known scs_one scs_len lc_take_add lc_drop_add
attribute [local go_sem] lt_nat lt_natl lt_lnat lt_ll bool_tf bool_ft
set_option maxRecDepth 100000
set_option maxHeartbeats 1000000
theorem fold_at (hG : G 0 = tbl) (x y m : Nat) (hx : x < 115792089237316195423570985008687907853269984665640564039457584007913129639936) (hy : y < 115792089237316195423570985008687907853269984665640564039457584007913129639936) (hm : 0 < m) (hm2 : m < 1000000) (c : Cap) (hc : c = .grow 4 ∨ ∃ k, c = .exact k ∧ 2 * m ≤ k) (f : Nat → Nat) (hf : ∀ j, f j < 115792089237316195423570985008687907853269984665640564039457584007913129639936) (p : Nat) {h : Heap} {k : Kind} (hk : k.m = true) (hp : h[p]? = some (some ⟨k, scs (2 * m) f⟩)) {R : V → Heap → Prop}
    (hR : R (.sl h.length 0 m (.exact m)) (h ++ [some ⟨.rw, scs m (fe x y m f)⟩])) : VCall Tryd.prog G 88 [lw x, .sl p 0 (2 * m) c, lw y] h R := by
  refine vcall_at (fold_elements hG x y m hx hy hm hm2 c hc f hf (fun v k => v = .sl 1 0 m (.exact m) ∧ k = [some ⟨.ro, scs (2 * m) f⟩, some ⟨.rw, scs m (fe x y m f)⟩]) ⟨rfl, rfl⟩) [p] ?_ (hfit_cons hp (bfit_same (scs_rens _ _ _) hk) hfit_nil) ?_ ?_ ?_
  · intro i hi
    obtain rfl : i = p := by simpa using hi
    exact (List.getElem?_eq_some_iff.1 hp).1
  · simp [uniq, wrB]
  · simp only [rens, ren, lw_plain, gmap]
  · rintro v k ⟨rfl, rfl⟩
    rw [puts_ro (by simp [wrB]) rfl (by simp)]
    simpa [ren, gmap, renB, scs_rens] using hR
theorem st_t8 (P Q : Nat) (r : List V) : List.take 8 (lc P ++ lc Q ++ r) = lc P ++ lc Q := rfl
theorem st_d9 (P Q : Nat) (a b : V) : List.drop 9 (lc P ++ lc Q ++ [a, b]) = [b] := rfl
theorem st_t9 (P Q : Nat) (a : V) (b : List V) : List.take 9 (lc P ++ lc Q ++ [a] ++ b) = lc P ++ lc Q ++ [a] := rfl
theorem st_d10 (P Q : Nat) (a b : V) : List.drop 10 (lc P ++ lc Q ++ [a] ++ [b]) = [] := rfl
theorem st_t10 (P Q : Nat) (a b : V) : List.take 10 (lc P ++ lc Q ++ [a] ++ [b]) = lc P ++ (lc Q ++ [a, b]) := rfl
noncomputable def pf1 (P L R U : Nat) : Nat := ((L * (U * U % ell) % ell + P) % ell + R * (linv U * linv U % ell) % ell) % ell
theorem pf1_lt (P L R U : Nat) : pf1 P L R U < ell := mod_lt' _
theorem folded_ (hG : G 0 = tbl) (P Q' L R U m : Nat) (hP : P < 115792089237316195423570985008687907853269984665640564039457584007913129639936) (hQ' : Q' < 115792089237316195423570985008687907853269984665640564039457584007913129639936) (hL : L < 115792089237316195423570985008687907853269984665640564039457584007913129639936) (hR : R < 115792089237316195423570985008687907853269984665640564039457584007913129639936) (hU : U < 115792089237316195423570985008687907853269984665640564039457584007913129639936) (hm : 0 < m) (hm2 : m < 1000000) (c d : Cap) (hc : c = .grow 4 ∨ ∃ k, c = .exact k ∧ 2 * m ≤ k) (hd : d = .grow 4 ∨ ∃ k, d = .exact k ∧ 2 * m ≤ k) (g h : Nat → Nat) (hg : ∀ j, g j < 115792089237316195423570985008687907853269984665640564039457584007913129639936) (hh : ∀ j, h j < 115792089237316195423570985008687907853269984665640564039457584007913129639936) (Q : V → Heap → Prop)
    (hQ : Q (stL (pf1 P L R U) Q' (.sl 2 0 m (.exact m)) (.sl 3 0 m (.exact m))) [some ⟨.ro, scs (2 * m) g⟩, some ⟨.ro, scs (2 * m) h⟩, some ⟨.rw, scs m (fe (linv U) U m g)⟩, some ⟨.rw, scs m (fe U (linv U) m h)⟩]) :
    VCall Tryd.prog G 61 [stL P Q' (.sl 0 0 (2 * m) c) (.sl 1 0 (2 * m) d), lw L, lw R, lw U] [some ⟨.ro, scs (2 * m) g⟩, some ⟨.ro, scs (2 * m) h⟩] Q := by
  have hl := ell_lt
  have hv : linv U < 115792089237316195423570985008687907853269984665640564039457584007913129639936 := Nat.lt_trans (linv_lt _) ell_lt
  have MSK := @maskH_nil
  refine vcall_body Tryd.func61 nm61 code61 nt61 ?_
  unfold stL
  refine run_driveS 80 ?_
  simp only [go_sem, Nat.reduceAdd, Nat.reduceSub, Nat.reduceLeDiff, Nat.reduceMul, Nat.reduceLT, Nat.reduceEqDiff, Int.reduceLT, Int.reduceLE, Int.reduceAdd, Int.reduceSub, Int.reduceMul, Int.reduceToNat, reduceIte, reduceCtorEq, Nat.reduceBEq, v61, v61_0, v61_1]
  refine run_call' rfl ?_
  simp only [go_sem, Nat.reduceAdd, Nat.reduceSub, Nat.reduceLeDiff, Nat.reduceMul, Nat.reduceLT, Nat.reduceEqDiff, Int.reduceLT, Int.reduceLE, Int.reduceAdd, Int.reduceSub, Int.reduceMul, Int.reduceToNat, reduceIte, reduceCtorEq, Nat.reduceBEq, calV]
  refine invert' hG U hU ?_
  refine run_driveS 80 ?_
  simp only [go_sem, Nat.reduceAdd, Nat.reduceSub, Nat.reduceLeDiff, Nat.reduceMul, Nat.reduceLT, Nat.reduceEqDiff, Int.reduceLT, Int.reduceLE, Int.reduceAdd, Int.reduceSub, Int.reduceMul, Int.reduceToNat, reduceIte, reduceCtorEq, Nat.reduceBEq]
  refine run_drw (by kernel_rfl) ?_
  refine drun_drive 40 (p := (_, _)) ?_
  simp only [go_sem, Nat.reduceAdd, Nat.reduceSub, Nat.reduceLeDiff, Nat.reduceMul, Nat.reduceLT, Nat.reduceEqDiff, Int.reduceLT, Int.reduceLE, Int.reduceAdd, Int.reduceSub, Int.reduceMul, Int.reduceToNat, reduceIte, reduceCtorEq, Nat.reduceBEq, v61_2]
  refine drun_call' ?_
  simp only [go_sem, Nat.reduceAdd, Nat.reduceSub, Nat.reduceLeDiff, Nat.reduceMul, Nat.reduceLT, Nat.reduceEqDiff, Int.reduceLT, Int.reduceLE, Int.reduceAdd, Int.reduceSub, Int.reduceMul, Int.reduceToNat, reduceIte, reduceCtorEq, Nat.reduceBEq, calV, restore, Option.join_some, maskH, List.mapIdx_cons, List.mapIdx_nil, List.contains_cons, List.contains_nil, Bool.or_false, Bool.or_true, Bool.false_or, Bool.true_or, Nat.reduceBEq]
  refine mul' hG _ _ hU hU ?_
  refine drun_drive 40 (p := (_, _)) ?_
  simp only [go_sem, Nat.reduceAdd, Nat.reduceSub, Nat.reduceLeDiff, Nat.reduceMul, Nat.reduceLT, Nat.reduceEqDiff, Int.reduceLT, Int.reduceLE, Int.reduceAdd, Int.reduceSub, Int.reduceMul, Int.reduceToNat, reduceIte, reduceCtorEq, Nat.reduceBEq, restore, Option.join_some, maskH, List.mapIdx_cons, List.mapIdx_nil, List.contains_cons, List.contains_nil, Bool.or_false, Bool.or_true, Bool.false_or, Bool.true_or, Nat.reduceBEq]
  refine drun_call' ?_
  simp only [go_sem, Nat.reduceAdd, Nat.reduceSub, Nat.reduceLeDiff, Nat.reduceMul, Nat.reduceLT, Nat.reduceEqDiff, Int.reduceLT, Int.reduceLE, Int.reduceAdd, Int.reduceSub, Int.reduceMul, Int.reduceToNat, reduceIte, reduceCtorEq, Nat.reduceBEq, calV, m_times, restore, Option.join_some, maskH, List.mapIdx_cons, List.mapIdx_nil, List.contains_cons, List.contains_nil, Bool.or_false, Bool.or_true, Bool.false_or, Bool.true_or, Nat.reduceBEq]
  refine line_times hG _ _ hL (mod_lt _) ?_
  refine drun_drive 40 (p := (_, _)) ?_
  simp only [go_sem, Nat.reduceAdd, Nat.reduceSub, Nat.reduceLeDiff, Nat.reduceMul, Nat.reduceLT, Nat.reduceEqDiff, Int.reduceLT, Int.reduceLE, Int.reduceAdd, Int.reduceSub, Int.reduceMul, Int.reduceToNat, reduceIte, reduceCtorEq, Nat.reduceBEq, restore, Option.join_some, maskH, List.mapIdx_cons, List.mapIdx_nil, List.contains_cons, List.contains_nil, Bool.or_false, Bool.or_true, Bool.false_or, Bool.true_or, Nat.reduceBEq]
  refine drun_call' ?_
  simp only [go_sem, Nat.reduceAdd, Nat.reduceSub, Nat.reduceLeDiff, Nat.reduceMul, Nat.reduceLT, Nat.reduceEqDiff, Int.reduceLT, Int.reduceLE, Int.reduceAdd, Int.reduceSub, Int.reduceMul, Int.reduceToNat, reduceIte, reduceCtorEq, Nat.reduceBEq, calV, m_add, restore, Option.join_some, maskH, List.mapIdx_cons, List.mapIdx_nil, List.contains_cons, List.contains_nil, Bool.or_false, Bool.or_true, Bool.false_or, Bool.true_or, Nat.reduceBEq]
  refine line_add hG _ _ (mod_lt _) hP ?_
  refine drun_drive 40 (p := (_, _)) ?_
  simp only [go_sem, Nat.reduceAdd, Nat.reduceSub, Nat.reduceLeDiff, Nat.reduceMul, Nat.reduceLT, Nat.reduceEqDiff, Int.reduceLT, Int.reduceLE, Int.reduceAdd, Int.reduceSub, Int.reduceMul, Int.reduceToNat, reduceIte, reduceCtorEq, Nat.reduceBEq, restore, Option.join_some, maskH, List.mapIdx_cons, List.mapIdx_nil, List.contains_cons, List.contains_nil, Bool.or_false, Bool.or_true, Bool.false_or, Bool.true_or, Nat.reduceBEq]
  refine drun_call' ?_
  simp only [go_sem, Nat.reduceAdd, Nat.reduceSub, Nat.reduceLeDiff, Nat.reduceMul, Nat.reduceLT, Nat.reduceEqDiff, Int.reduceLT, Int.reduceLE, Int.reduceAdd, Int.reduceSub, Int.reduceMul, Int.reduceToNat, reduceIte, reduceCtorEq, Nat.reduceBEq, calV, restore, Option.join_some, maskH, List.mapIdx_cons, List.mapIdx_nil, List.contains_cons, List.contains_nil, Bool.or_false, Bool.or_true, Bool.false_or, Bool.true_or, Nat.reduceBEq]
  refine mul' hG _ _ hv hv ?_
  refine drun_drive 40 (p := (_, _)) ?_
  simp only [go_sem, Nat.reduceAdd, Nat.reduceSub, Nat.reduceLeDiff, Nat.reduceMul, Nat.reduceLT, Nat.reduceEqDiff, Int.reduceLT, Int.reduceLE, Int.reduceAdd, Int.reduceSub, Int.reduceMul, Int.reduceToNat, reduceIte, reduceCtorEq, Nat.reduceBEq, restore, Option.join_some, maskH, List.mapIdx_cons, List.mapIdx_nil, List.contains_cons, List.contains_nil, Bool.or_false, Bool.or_true, Bool.false_or, Bool.true_or, Nat.reduceBEq]
  refine drun_call' ?_
  simp only [go_sem, Nat.reduceAdd, Nat.reduceSub, Nat.reduceLeDiff, Nat.reduceMul, Nat.reduceLT, Nat.reduceEqDiff, Int.reduceLT, Int.reduceLE, Int.reduceAdd, Int.reduceSub, Int.reduceMul, Int.reduceToNat, reduceIte, reduceCtorEq, Nat.reduceBEq, calV, m_times, restore, Option.join_some, maskH, List.mapIdx_cons, List.mapIdx_nil, List.contains_cons, List.contains_nil, Bool.or_false, Bool.or_true, Bool.false_or, Bool.true_or, Nat.reduceBEq]
  refine line_times hG _ _ hR (mod_lt _) ?_
  refine drun_drive 40 (p := (_, _)) ?_
  simp only [go_sem, Nat.reduceAdd, Nat.reduceSub, Nat.reduceLeDiff, Nat.reduceMul, Nat.reduceLT, Nat.reduceEqDiff, Int.reduceLT, Int.reduceLE, Int.reduceAdd, Int.reduceSub, Int.reduceMul, Int.reduceToNat, reduceIte, reduceCtorEq, Nat.reduceBEq, restore, Option.join_some, maskH, List.mapIdx_cons, List.mapIdx_nil, List.contains_cons, List.contains_nil, Bool.or_false, Bool.or_true, Bool.false_or, Bool.true_or, Nat.reduceBEq]
  refine drun_call' ?_
  simp only [go_sem, Nat.reduceAdd, Nat.reduceSub, Nat.reduceLeDiff, Nat.reduceMul, Nat.reduceLT, Nat.reduceEqDiff, Int.reduceLT, Int.reduceLE, Int.reduceAdd, Int.reduceSub, Int.reduceMul, Int.reduceToNat, reduceIte, reduceCtorEq, Nat.reduceBEq, calV, m_add, restore, Option.join_some, maskH, List.mapIdx_cons, List.mapIdx_nil, List.contains_cons, List.contains_nil, Bool.or_false, Bool.or_true, Bool.false_or, Bool.true_or, Nat.reduceBEq]
  refine line_add hG _ _ (mod_lt _) (mod_lt _) ?_
  rw [show ((L * (U * U % ell) % ell + P) % ell + R * (linv U * linv U % ell) % ell) % ell = pf1 P L R U from rfl]
  refine drun_drive 40 (p := (_, _)) ?_
  simp only [go_sem, Nat.reduceAdd, Nat.reduceSub, Nat.reduceLeDiff, Nat.reduceMul, Nat.reduceLT, Nat.reduceEqDiff, Int.reduceLT, Int.reduceLE, Int.reduceAdd, Int.reduceSub, Int.reduceMul, Int.reduceToNat, reduceIte, reduceCtorEq, Nat.reduceBEq, restore, Option.join_some, maskH, List.mapIdx_cons, List.mapIdx_nil, List.contains_cons, List.contains_nil, Bool.or_false, Bool.or_true, Bool.false_or, Bool.true_or, Nat.reduceBEq]
  refine drun_call' ?_
  simp only [go_sem, Nat.reduceAdd, Nat.reduceSub, Nat.reduceLeDiff, Nat.reduceMul, Nat.reduceLT, Nat.reduceEqDiff, Int.reduceLT, Int.reduceLE, Int.reduceAdd, Int.reduceSub, Int.reduceMul, Int.reduceToNat, reduceIte, reduceCtorEq, Nat.reduceBEq, calV, restore, Option.join_some, maskH, List.mapIdx_cons, List.mapIdx_nil, List.contains_cons, List.contains_nil, Bool.or_false, Bool.or_true, Bool.false_or, Bool.true_or, Nat.reduceBEq]
  refine fold_at hG _ _ m hv hU hm hm2 c hc g hg 0 rfl rfl ?_
  refine drun_drive 40 (p := (_, _)) ?_
  simp only [go_sem, Nat.reduceAdd, Nat.reduceSub, Nat.reduceLeDiff, Nat.reduceMul, Nat.reduceLT, Nat.reduceEqDiff, Int.reduceLT, Int.reduceLE, Int.reduceAdd, Int.reduceSub, Int.reduceMul, Int.reduceToNat, reduceIte, reduceCtorEq, Nat.reduceBEq, restore, Option.join_some, maskH, List.mapIdx_cons, List.mapIdx_nil, List.contains_cons, List.contains_nil, Bool.or_false, Bool.or_true, Bool.false_or, Bool.true_or, Nat.reduceBEq]
  refine drun_call' ?_
  simp only [go_sem, Nat.reduceAdd, Nat.reduceSub, Nat.reduceLeDiff, Nat.reduceMul, Nat.reduceLT, Nat.reduceEqDiff, Int.reduceLT, Int.reduceLE, Int.reduceAdd, Int.reduceSub, Int.reduceMul, Int.reduceToNat, reduceIte, reduceCtorEq, Nat.reduceBEq, calV, restore, Option.join_some, maskH, List.mapIdx_cons, List.mapIdx_nil, List.contains_cons, List.contains_nil, Bool.or_false, Bool.or_true, Bool.false_or, Bool.true_or, Nat.reduceBEq]
  refine fold_at hG _ _ m hU hv hm hm2 d hd h hh 1 rfl rfl ?_
  refine drun_drive 40 (p := (_, _)) ?_
  simp only [go_sem, Nat.reduceAdd, Nat.reduceSub, Nat.reduceLeDiff, Nat.reduceMul, Nat.reduceLT, Nat.reduceEqDiff, Int.reduceLT, Int.reduceLE, Int.reduceAdd, Int.reduceSub, Int.reduceMul, Int.reduceToNat, reduceIte, reduceCtorEq, Nat.reduceBEq, st_t8, st_d9, st_t9, st_d10, restore, Option.join_some, maskH, List.mapIdx_cons, List.mapIdx_nil, List.contains_cons, List.contains_nil, Bool.or_false, Bool.or_true, Bool.false_or, Bool.true_or, Nat.reduceBEq]
  refine drun_end ?_
  refine run_driveS 80 ?_
  simp only [go_sem, Nat.reduceAdd, Nat.reduceSub, Nat.reduceLeDiff, Nat.reduceMul, Nat.reduceLT, Nat.reduceEqDiff, Int.reduceLT, Int.reduceLE, Int.reduceAdd, Int.reduceSub, Int.reduceMul, Int.reduceToNat, reduceIte, reduceCtorEq, Nat.reduceBEq]
  refine run_ret_drop Tryd.func61 res61 [0, 1, 8, 9] (stL (pf1 P L R U) Q' (.sl 2 0 m (.exact m)) (.sl 3 0 m (.exact m))) _ rfl (by simp) ?_ ?_ ?_ hQ
  · simp only [go_sem, Nat.reduceAdd, Nat.reduceSub, Nat.reduceLeDiff, Nat.reduceMul, Nat.reduceLT, Nat.reduceEqDiff, Int.reduceLT, Int.reduceLE, Int.reduceAdd, Int.reduceSub, Int.reduceMul, Int.reduceToNat, reduceIte, reduceCtorEq, Nat.reduceBEq, hfit, lc_fit, scs_fit, fit, ren, gmap, lw_plain, true_or, or_true]
  · simp [uniq, wrB]
  · simp only [go_sem, Nat.reduceAdd, Nat.reduceSub, Nat.reduceLeDiff, Nat.reduceMul, Nat.reduceLT, Nat.reduceEqDiff, Int.reduceLT, Int.reduceLE, Int.reduceAdd, Int.reduceSub, Int.reduceMul, Int.reduceToNat, reduceIte, reduceCtorEq, Nat.reduceBEq, rr61, ren, rens, gmap, stL_ren, stL, rens_append, st_t10]
end
section
attribute [local go_sem ↓] lc_len lc_take lc_drop lc_known lc_one lc_rens lc_cells lw_known lw_agg lw_asG scs_known scs_one scs_len lc_take_add lc_drop_add lenO_dv dv_known dv_one dv_ren
attribute [local go_sem] lt_nat lt_natl lt_lnat lt_ll bool_tf bool_ft
set_option maxRecDepth 100000
set_option maxHeartbeats 1000000
theorem fits_dv (hG : G 0 = tbl) (P Q' a b N : Nat) (hN : N ≤ 10) (c1 c2 : Cap) (us : Nat → Nat) (hus : ∀ j, us j < 115792089237316195423570985008687907853269984665640564039457584007913129639936) (hz : ∀ j, j < N → us j % ell ≠ 0) (Q : V → Heap → Prop) (hQ : Q (.int .i64 0) [rob us N, none, none, none, none]) :
    VCall Tryd.prog G 41 [stL P Q' (.sl 1 0 (2 ^ N) c1) (.sl 2 0 (2 ^ N) c2), arL (dv 3 N) (dv 4 N) a b, dv 0 N] [rob us N, none, none, none, none] Q := by
  have hp : 2 ^ N ≤ 2 ^ 10 := Nat.pow_le_pow_right (by decide) hN
  refine vcall_body Tryd.func41 nm41 code41 nt41 ?_
  unfold stL arL
  refine run_driveS 80 ?_
  simp only [go_sem, Nat.reduceAdd, Nat.reduceSub, Nat.reduceLeDiff, Nat.reduceMul, Nat.reduceLT, Nat.reduceEqDiff, Int.reduceLT, Int.reduceLE, Int.reduceAdd, Int.reduceSub, Int.reduceMul, Int.reduceToNat, reduceIte, reduceCtorEq, Nat.reduceBEq, v41, v41_0, v41_1]
  refine run_call' rfl ?_
  simp only [go_sem, Nat.reduceAdd, Nat.reduceSub, Nat.reduceLeDiff, Nat.reduceMul, Nat.reduceLT, Nat.reduceEqDiff, Int.reduceLT, Int.reduceLE, Int.reduceAdd, Int.reduceSub, Int.reduceMul, Int.reduceToNat, reduceIte, reduceCtorEq, Nat.reduceBEq, calV]
  refine rounds_ (2 ^ N) (by omega) (fun k hk e => ?_) (fun h => absurd rfl (h N hN))
  obtain rfl : N = k := pow_inj e
  refine run_driveS 80 ?_
  simp only [go_sem, Nat.reduceAdd, Nat.reduceSub, Nat.reduceLeDiff, Nat.reduceMul, Nat.reduceLT, Nat.reduceEqDiff, Int.reduceLT, Int.reduceLE, Int.reduceAdd, Int.reduceSub, Int.reduceMul, Int.reduceToNat, reduceIte, reduceCtorEq, Nat.reduceBEq, v41_2, eq_int, decide_true]
  refine run_cond_f (by rfl) ?_
  refine run_driveS 80 ?_
  simp only [go_sem, Nat.reduceAdd, Nat.reduceSub, Nat.reduceLeDiff, Nat.reduceMul, Nat.reduceLT, Nat.reduceEqDiff, Int.reduceLT, Int.reduceLE, Int.reduceAdd, Int.reduceSub, Int.reduceMul, Int.reduceToNat, reduceIte, reduceCtorEq, Nat.reduceBEq, v41_4, v41_12]
  refine run_rename [0, 1, 2, 3, 4] (st' := ⟨[.unk, .unk, dv 0 N] ++ List.replicate 46 .unk ++ [dv 0 N, .int .i64 N, .int .i64 (0 : Nat)] ++ List.replicate 6 .unk, [rob us N, none, none, none, none]⟩) rfl (by simp) ?_ ?_ ?_ (run_for (fun i => ⟨[.unk, .unk, dv 0 N] ++ List.replicate 46 .unk ++ [dv 0 N, .int .i64 N, .int .i64 i] ++ List.replicate 6 .unk, [rob us N, none, none, none, none]⟩) N (fun i hi ih => ?_) ?_)
  · exact hfit_cons rfl (by rcases rob_cases us N with e | e <;> rw [e] <;> first | trivial | exact bfit_same (scs_rens _ _ _)) (hfit_cons rfl trivial (hfit_cons rfl trivial (hfit_cons rfl trivial (hfit_cons rfl trivial hfit_nil))))
  · simp [uniq, wrB]
  · simp only [go_sem, Nat.reduceAdd, Nat.reduceSub, Nat.reduceLeDiff, Nat.reduceMul, Nat.reduceLT, Nat.reduceEqDiff, Int.reduceLT, Int.reduceLE, Int.reduceAdd, Int.reduceSub, Int.reduceMul, Int.reduceToNat, reduceIte, reduceCtorEq, Nat.reduceBEq, hfit, lc_fit, scs_fit, fit, ren, gmap, lw_plain, true_or, or_true]
  · have h0 : ((i : Int) < (N : Int)) = True := eq_true (by omega)
    have hw : IntKind.i64.wrap ((i : Int) + 1) = ((i + 1 : Nat) : Int) := by rw [wrap_i64 (by omega) (by omega)]; omega
    have hg := scs_get' N us (i := i) (by omega)
    rw [dv_pos (by omega), rob_pos (by omega)] at ih ⊢
    refine run_loop_eq v41_11.eq_1 ?_
    refine run_driveS 80 ?_
    simp only [go_sem, Nat.reduceAdd, Nat.reduceSub, Nat.reduceLeDiff, Nat.reduceMul, Nat.reduceLT, Nat.reduceEqDiff, Int.reduceLT, Int.reduceLE, Int.reduceAdd, Int.reduceSub, Int.reduceMul, Int.reduceToNat, reduceIte, reduceCtorEq, Nat.reduceBEq, v41_5, v41_9, v41_6, v41_7, h0, hg]
    refine run_call' rfl ?_
    simp only [go_sem, Nat.reduceAdd, Nat.reduceSub, Nat.reduceLeDiff, Nat.reduceMul, Nat.reduceLT, Nat.reduceEqDiff, Int.reduceLT, Int.reduceLE, Int.reduceAdd, Int.reduceSub, Int.reduceMul, Int.reduceToNat, reduceIte, reduceCtorEq, Nat.reduceBEq, calV]
    refine is_zero' hG _ (hus i) ?_
    refine run_driveS 80 ?_
    simp only [go_sem, Nat.reduceAdd, Nat.reduceSub, Nat.reduceLeDiff, Nat.reduceMul, Nat.reduceLT, Nat.reduceEqDiff, Int.reduceLT, Int.reduceLE, Int.reduceAdd, Int.reduceSub, Int.reduceMul, Int.reduceToNat, reduceIte, reduceCtorEq, Nat.reduceBEq]
    refine run_cond_f (by simp only [go_sem, Nat.reduceAdd, Nat.reduceSub, Nat.reduceLeDiff, Nat.reduceMul, Nat.reduceLT, Nat.reduceEqDiff, Int.reduceLT, Int.reduceLE, Int.reduceAdd, Int.reduceSub, Int.reduceMul, Int.reduceToNat, reduceIte, reduceCtorEq, Nat.reduceBEq, decide_eq_false (hz i hi)]) ?_
    refine run_driveS 80 ?_
    simp only [go_sem, Nat.reduceAdd, Nat.reduceSub, Nat.reduceLeDiff, Nat.reduceMul, Nat.reduceLT, Nat.reduceEqDiff, Int.reduceLT, Int.reduceLE, Int.reduceAdd, Int.reduceSub, Int.reduceMul, Int.reduceToNat, reduceIte, reduceCtorEq, Nat.reduceBEq, v41_10, hw]
    refine run_rename [0, 1, 2, 3, 4] rfl (by simp) ?_ ?_ ?_ (ih)
    · simp only [go_sem, Nat.reduceAdd, Nat.reduceSub, Nat.reduceLeDiff, Nat.reduceMul, Nat.reduceLT, Nat.reduceEqDiff, Int.reduceLT, Int.reduceLE, Int.reduceAdd, Int.reduceSub, Int.reduceMul, Int.reduceToNat, reduceIte, reduceCtorEq, Nat.reduceBEq, hfit, lc_fit, scs_fit, fit, ren, gmap, lw_plain, true_or, or_true]
    · simp [uniq, wrB]
    · simp only [go_sem, Nat.reduceAdd, Nat.reduceSub, Nat.reduceLeDiff, Nat.reduceMul, Nat.reduceLT, Nat.reduceEqDiff, Int.reduceLT, Int.reduceLE, Int.reduceAdd, Int.reduceSub, Int.reduceMul, Int.reduceToNat, reduceIte, reduceCtorEq, Nat.reduceBEq, hfit, lc_fit, scs_fit, fit, ren, gmap, lw_plain, true_or, or_true]
  · have h0 : ((N : Int) < (N : Int)) = False := eq_false (by omega)
    refine run_loop_eq v41_11.eq_1 ?_
    refine run_driveS 80 ?_
    simp only [go_sem, Nat.reduceAdd, Nat.reduceSub, Nat.reduceLeDiff, Nat.reduceMul, Nat.reduceLT, Nat.reduceEqDiff, Int.reduceLT, Int.reduceLE, Int.reduceAdd, Int.reduceSub, Int.reduceMul, Int.reduceToNat, reduceIte, reduceCtorEq, Nat.reduceBEq, v41_5, h0]
    refine run_exit rfl ?_
    refine run_driveS 80 ?_
    simp only [go_sem, Nat.reduceAdd, Nat.reduceSub, Nat.reduceLeDiff, Nat.reduceMul, Nat.reduceLT, Nat.reduceEqDiff, Int.reduceLT, Int.reduceLE, Int.reduceAdd, Int.reduceSub, Int.reduceMul, Int.reduceToNat, reduceIte, reduceCtorEq, Nat.reduceBEq, v41_13]
    refine run_ret_drop Tryd.func41 res41 [0, 1, 2, 3, 4] (.int .i64 0) _ rfl (by simp) ?_ ?_ ?_ hQ
    · exact hfit_cons rfl (by rcases rob_cases us N with e | e <;> rw [e] <;> first | trivial | exact bfit_same (scs_rens _ _ _)) (hfit_cons rfl trivial (hfit_cons rfl trivial (hfit_cons rfl trivial (hfit_cons rfl trivial hfit_nil))))
    · simp [uniq, wrB]
    · simp only [go_sem, Nat.reduceAdd, Nat.reduceSub, Nat.reduceLeDiff, Nat.reduceMul, Nat.reduceLT, Nat.reduceEqDiff, Int.reduceLT, Int.reduceLE, Int.reduceAdd, Int.reduceSub, Int.reduceMul, Int.reduceToNat, reduceIte, reduceCtorEq, Nat.reduceBEq, rr41, ren]
end
section
attribute [local go_sem ↓] lc_len lc_take lc_drop lc_known lc_one lc_rens lc_cells lw_known lw_agg lw_asG scs_known scs_one scs_len lc_take_add lc_drop_add lenO_dv dv_known dv_one dv_ren
attribute [local go_sem] lt_nat lt_natl lt_lnat lt_ll bool_tf bool_ft
set_option maxRecDepth 100000
set_option maxHeartbeats 2000000
noncomputable def Gs (us g : Nat → Nat) (N : Nat) : Nat → Nat → Nat
  | 0 => g
  | t + 1 => fe (linv (us t)) (us t) (2 ^ (N - (t + 1))) (Gs us g N t)
noncomputable def Hs (us h : Nat → Nat) (N : Nat) : Nat → Nat → Nat
  | 0 => h
  | t + 1 => fe (us t) (linv (us t)) (2 ^ (N - (t + 1))) (Hs us h N t)
noncomputable def Ps (us L R : Nat → Nat) (P : Nat) : Nat → Nat
  | 0 => P
  | t + 1 => pf1 (Ps us L R P t) (L t) (R t) (us t)
theorem Gs_lt {us g : Nat → Nat} {N : Nat} (h : ∀ j, g j < 115792089237316195423570985008687907853269984665640564039457584007913129639936) : ∀ t j, Gs us g N t j < 115792089237316195423570985008687907853269984665640564039457584007913129639936
  | 0, j => h j
  | _ + 1, _ => Nat.lt_trans (fe_lt ..) ell_lt
theorem Hs_lt {us g : Nat → Nat} {N : Nat} (h : ∀ j, g j < 115792089237316195423570985008687907853269984665640564039457584007913129639936) : ∀ t j, Hs us g N t j < 115792089237316195423570985008687907853269984665640564039457584007913129639936
  | 0, j => h j
  | _ + 1, _ => Nat.lt_trans (fe_lt ..) ell_lt
theorem Ps_lt {us L R : Nat → Nat} {P : Nat} (h : P < 115792089237316195423570985008687907853269984665640564039457584007913129639936) : ∀ t, Ps us L R P t < 115792089237316195423570985008687907853269984665640564039457584007913129639936
  | 0 => h
  | _ + 1 => Nat.lt_trans (pf1_lt ..) ell_lt
def CapOk (c : Cap) (n : Nat) : Prop := c = .grow 4 ∨ ∃ k, c = .exact k ∧ n ≤ k
theorem bfit_rob {g f : Nat → Nat} {n : Nat} : bfit g (rob f n) (rob f n) := by
  rcases rob_cases f n with e | e <;> rw [e]
  · trivial
  · exact bfit_same (scs_rens ..)
theorem scs_tk (n : Nat) (f : Nat → Nat) : (scs n f).take (n * 4) = scs n f := List.take_of_length_le (by rw [scs_len]; exact Nat.le_refl _)
theorem st_ap (P Q : Nat) (a b : V) : lc P ++ lc Q ++ [a] ++ [b] ++ [] = lc P ++ (lc Q ++ [a, b]) := rfl
theorem yld_known (i : Nat) : (V.yld i).known = true := rfl
attribute [local go_sem] yld_known
theorem bfit_st {f : Nat → Nat} {P Q i j n : Nat} {c d : Cap} (hi : f i = i) (hj : f j = j) : bfit f (some ⟨.rw, lc P ++ (lc Q ++ [.sl i 0 n c, .sl j 0 n d])⟩) (some ⟨.rw, lc P ++ (lc Q ++ [.sl i 0 n c, .sl j 0 n d])⟩) := ⟨.inl rfl, fit_same (by simp only [rens_append, lc_rens, rens, ren, hi, hj])⟩
theorem gmap_r14 {L j : Nat} (hj : j < 12) : gmap [0, 1, 2, 3, 4, 5, 6, 7, 8, 9, 10, 11, 18, 19] L j = j := by
  match j, hj with
  | 0, _ | 1, _ | 2, _ | 3, _ | 4, _ | 5, _ | 6, _ | 7, _ | 8, _ | 9, _ | 10, _ | 11, _ => rfl
theorem uniq_nodup {μ : List Nat} {h' : Heap} (hn : μ.Nodup) : uniq μ h' := by
  unfold uniq
  refine List.pairwise_iff_getElem.2 fun i j hi hj hij _ => ?_
  simp only [List.getElem_zip]
  exact List.pairwise_iff_getElem.1 hn i j _ _ hij
theorem bfit_or {f : Nat → Nat} {b c : Option Blk} {p : Prop} (h : b = c ∨ p) (hp : ¬ p) (hb : bfit f c c) : bfit f c b := by
  rcases h with h | h
  · rw [h]; exact hb
  · exact absurd h hp
theorem bfit_cast {f : Nat → Nat} {b b' : Option Blk} (e : b = b') (h : bfit f b b) : bfit f b b' := by rw [← e]; exact h
theorem bfit_st2 {f : Nat → Nat} {P Q i j i' j' n : Nat} {c d : Cap} (hi : f i = i') (hj : f j = j') : bfit f (some ⟨.rw, lc P ++ (lc Q ++ [.sl i 0 n c, .sl j 0 n d])⟩) (some ⟨.rw, lc P ++ (lc Q ++ [.sl i' 0 n c, .sl j' 0 n d])⟩) := by
  refine ⟨.inl rfl, ?_⟩
  have h := fit_rens f (lc P ++ (lc Q ++ [.sl i 0 n c, .sl j 0 n d]))
  simpa only [rens_append, lc_rens, rens, ren, hi, hj] using h
theorem gmap_r17 {L j : Nat} (hj : j < 12) : gmap [0, 1, 2, 3, 4, 5, 6, 7, 8, 9, 10, 11, 12, 20, 21, 18, 19] L j = j := by
  match j, hj with
  | 0, _ | 1, _ | 2, _ | 3, _ | 4, _ | 5, _ | 6, _ | 7, _ | 8, _ | 9, _ | 10, _ | 11, _ => rfl
theorem gmap_r12 {L j : Nat} (hj : j < 12) : gmap [0, 1, 2, 3, 4, 5, 6, 7, 8, 9, 10, 11] L j = j := by
  match j, hj with
  | 0, _ | 1, _ | 2, _ | 3, _ | 4, _ | 5, _ | 6, _ | 7, _ | 8, _ | 9, _ | 10, _ | 11, _ => rfl
theorem gmap_r17' {L j : Nat} (hj : j < 12) : gmap [0, 1, 2, 3, 4, 5, 6, 7, 8, 9, 10, 11, 12, 13, 14, 15, 16] L j = j := by
  match j, hj with
  | 0, _ | 1, _ | 2, _ | 3, _ | 4, _ | 5, _ | 6, _ | 7, _ | 8, _ | 9, _ | 10, _ | 11, _ => rfl
theorem trim20 {f : FuncId} {md : Md} {Q : V → Heap → Prop} {k : List TI} {tm : List V} {b0 b1 b2 b3 b4 b5 b6 b7 b8 b9 b10 b11 b12 b13 b14 b15 b16 b17 b18 b19 : Option Blk} {X : Heap} (hu : uniq [0, 1, 2, 3, 4, 5, 6, 7, 8, 9, 10, 11, 12, 13, 14, 15, 16, 17, 18, 19] [b0, b1, b2, b3, b4, b5, b6, b7, b8, b9, b10, b11, b12, b13, b14, b15, b16, b17, b18, b19])
    (h : RunM Tryd.prog G f 12 md Q (k, ⟨tm, [b0, b1, b2, b3, b4, b5, b6, b7, b8, b9, b10, b11, b12, b13, b14, b15, b16, b17, b18, b19]⟩))
    (hf : ∀ g : Nat → Nat, (∀ j, j < 20 → g j = j) → fit g tm tm ∧ bfit g b0 b0 ∧ bfit g b1 b1 ∧ bfit g b2 b2 ∧ bfit g b3 b3 ∧ bfit g b4 b4 ∧ bfit g b5 b5 ∧ bfit g b6 b6 ∧ bfit g b7 b7 ∧ bfit g b8 b8 ∧ bfit g b9 b9 ∧ bfit g b10 b10 ∧ bfit g b11 b11 ∧ bfit g b12 b12 ∧ bfit g b13 b13 ∧ bfit g b14 b14 ∧ bfit g b15 b15 ∧ bfit g b16 b16 ∧ bfit g b17 b17 ∧ bfit g b18 b18 ∧ bfit g b19 b19) :
    RunM Tryd.prog G f 12 md Q (k, ⟨tm, b0 :: b1 :: b2 :: b3 :: b4 :: b5 :: b6 :: b7 :: b8 :: b9 :: b10 :: b11 :: b12 :: b13 :: b14 :: b15 :: b16 :: b17 :: b18 :: b19 :: X⟩) := by
  obtain ⟨ht, f0, f1, f2, f3, f4, f5, f6, f7, f8, f9, f10, f11, f12, f13, f14, f15, f16, f17, f18, f19⟩ := hf (gmap [0, 1, 2, 3, 4, 5, 6, 7, 8, 9, 10, 11, 12, 13, 14, 15, 16, 17, 18, 19] (b0 :: b1 :: b2 :: b3 :: b4 :: b5 :: b6 :: b7 :: b8 :: b9 :: b10 :: b11 :: b12 :: b13 :: b14 :: b15 :: b16 :: b17 :: b18 :: b19 :: X).length) (fun j hj => gmap_lt (by
    have : ([0, 1, 2, 3, 4, 5, 6, 7, 8, 9, 10, 11, 12, 13, 14, 15, 16, 17, 18, 19] : List Nat) = List.range 20 := by decide
    rw [this, List.getElem?_range hj]))
  exact run_rename [0, 1, 2, 3, 4, 5, 6, 7, 8, 9, 10, 11, 12, 13, 14, 15, 16, 17, 18, 19] rfl (by simp) (hfit_cons rfl f0 (hfit_cons rfl f1 (hfit_cons rfl f2 (hfit_cons rfl f3 (hfit_cons rfl f4 (hfit_cons rfl f5 (hfit_cons rfl f6 (hfit_cons rfl f7 (hfit_cons rfl f8 (hfit_cons rfl f9 (hfit_cons rfl f10 (hfit_cons rfl f11 (hfit_cons rfl f12 (hfit_cons rfl f13 (hfit_cons rfl f14 (hfit_cons rfl f15 (hfit_cons rfl f16 (hfit_cons rfl f17 (hfit_cons rfl f18 (hfit_cons rfl f19 hfit_nil)))))))))))))))))))) hu ht h
theorem uniq20 {h' : Heap} (hl : h'.length = 20) : uniq [0, 1, 2, 3, 4, 5, 6, 7, 8, 9, 10, 11, 12, 13, 14, 15, 16, 17, 18, 19] h' := by
  have e : ([0, 1, 2, 3, 4, 5, 6, 7, 8, 9, 10, 11, 12, 13, 14, 15, 16, 17, 18, 19] : List Nat) = List.range 20 := by decide
  unfold uniq
  rw [e]
  refine List.pairwise_iff_getElem.2 fun i j hi hj hij _ => ?_
  simp only [List.getElem_zip, List.getElem_range]
  omega
theorem puts_keep' {g : Nat → Nat} : ∀ {h' h'' : Heap} {μ : List Nat} {h : Heap}, (∀ x ∈ h', wrB x = false) → h''.length = h'.length → μ.length = h'.length → puts g h' h'' μ h = h
  | [], [], μ, h, _, _, _ => by simp [puts]
  | b :: h', b1 :: h'', i :: μ, h, hw, hl, hm => by
    simp only [puts, hw b (by simp), Bool.false_eq_true, if_false]
    exact puts_keep' (fun x hx => hw x (by simp [hx])) (by simpa using hl) (by simpa using hm)
theorem puts_keep {g : Nat → Nat} {h' h'' : Heap} {μ : List Nat} {h : Heap} (hw : ∀ x ∈ h', wrB x = false) (hl : h''.length = h'.length) (hm : μ.length = h'.length := by rfl) : puts g h' h'' μ h = h := puts_keep' hw hl hm
section
variable (us g h Lf Rf : Nat → Nat) (N P Q' a b : Nat) (r : Loop) (tm : List V) (A : Nat → Nat → Nat → Option Blk) (B C Z W : Nat → Option Blk)
def bS : Option Blk := some ⟨.ro, lc P ++ (lc Q' ++ [.sl 3 0 (2 ^ N) (.grow 4), .sl 4 0 (2 ^ N) (.grow 4)])⟩
def bX : Option Blk := some ⟨.ro, dv 5 N :: dv 6 N :: (lc a ++ lc b)⟩
def bU : Option Blk := some ⟨.ro, [dv 7 N]⟩
def tm60 (t : Nat) : List V := [.yld 8, .ptr 0 0, .ptr 1 0, .ptr 2 0, .unk, .ptr 12 0, .int .i64 t] ++ List.replicate 44 .unk
noncomputable def hd0 (t : Nat) (c d : Cap) : Heap := [bS N P Q', bX N a b, bU N, some ⟨.ro, scs (2 ^ (N - t)) (Gs us g N t)⟩, some ⟨.ro, scs (2 ^ (N - t)) (Hs us h N t)⟩, rob Lf N, rob Rf N, rob us N, some ⟨.loop r, tm⟩, A t 15 16, B t, C t,
  some ⟨.rw, lc (Ps us Lf Rf P t) ++ (lc Q' ++ [.sl 3 0 (2 ^ (N - t)) c, .sl 4 0 (2 ^ (N - t)) d])⟩, none, none, Z t, W t]
noncomputable def hd1 (t : Nat) (c d : Cap) : Heap := [bS N P Q', bX N a b, bU N, some ⟨.ro, scs (2 ^ N) g⟩, some ⟨.ro, scs (2 ^ N) h⟩, rob Lf N, rob Rf N, rob us N, some ⟨.loop r, tm⟩, A t 15 16, B t, C t,
  some ⟨.rw, lc (Ps us Lf Rf P t) ++ (lc Q' ++ [.sl 13 0 (2 ^ (N - t)) c, .sl 14 0 (2 ^ (N - t)) d])⟩, some ⟨.ro, scs (2 ^ (N - t)) (Gs us g N t)⟩, some ⟨.ro, scs (2 ^ (N - t)) (Hs us h N t)⟩, Z t, W t]
theorem step0 (hG : G 0 = tbl) (hN : N ≤ 10) (hus : ∀ j, us j < 115792089237316195423570985008687907853269984665640564039457584007913129639936) (hz : ∀ j, j < N → us j % ell ≠ 0) (hg : ∀ j, g j < 115792089237316195423570985008687907853269984665640564039457584007913129639936) (hh : ∀ j, h j < 115792089237316195423570985008687907853269984665640564039457584007913129639936) (hL : ∀ j, Lf j < 115792089237316195423570985008687907853269984665640564039457584007913129639936) (hR : ∀ j, Rf j < 115792089237316195423570985008687907853269984665640564039457584007913129639936) (hP : P < 115792089237316195423570985008687907853269984665640564039457584007913129639936) (hQ' : Q' < 115792089237316195423570985008687907853269984665640564039457584007913129639936) (htm : ∀ f : Nat → Nat, (∀ j, j < 12 → f j = j) → fit f tm tm)
    (hA : ∀ f t i j, bfit f (A t i j) (A t (f i) (f j))) (hB : ∀ f t, bfit f (B t) (B t)) (hC : ∀ f t, bfit f (C t) (C t)) (hZ : ∀ f t, bfit f (Z t) (Z t)) (hW : ∀ f t, bfit f (W t) (W t)) (hZ0 : Z 0 = none) (hW0 : W 0 = none) (hA0 : ∀ i j, A 0 i j = A 0 0 0)
    (Q : V → Heap → Prop) (Fs : Loop → Option Blk → Option Blk → Option Blk → Prop)
    (hY : ∀ t, t ≤ N → ∀ B0 B1 B2 B3 B4 B5 B6 B7 B12 B13 B14 B17, YCall Tryd.prog G 8 [stL (Ps us Lf Rf P t) Q' (.sl 18 0 (2 ^ (N - t)) (.grow 4)) (.sl 19 0 (2 ^ (N - t)) (.grow 4))]
      [B0, B1, B2, B3, B4, B5, B6, B7, some ⟨.loop r, tm⟩, A t 15 16, B t, C t, B12, B13, B14, Z t, W t, B17, some ⟨.grow, scs (2 ^ (N - t)) (Gs us g N t)⟩, some ⟨.grow, scs (2 ^ (N - t)) (Hs us h N t)⟩]
      fun v h' => (v = .bool true ∧ ∃ X, h' = B0 :: B1 :: B2 :: B3 :: B4 :: B5 :: B6 :: B7 :: some ⟨.loop r, tm⟩ :: A (t + 1) 18 19 :: B (t + 1) :: C (t + 1) :: B12 :: B13 :: B14 :: Z t :: W t :: B17 :: Z (t + 1) :: W (t + 1) :: X) ∨
        (v = .bool false ∧ ∃ r' A' B' C' X, h' = B0 :: B1 :: B2 :: B3 :: B4 :: B5 :: B6 :: B7 :: some ⟨.loop r', tm⟩ :: A' :: B' :: C' :: X ∧ (∀ f, bfit f A' A') ∧ (∀ f, bfit f B' B') ∧ (∀ f, bfit f C' C') ∧ Fs r' A' B' C'))
    (hQ1 : Q (.tup []) [bS N P Q', bX N a b, bU N, some ⟨.ro, scs (2 ^ N) g⟩, some ⟨.ro, scs (2 ^ N) h⟩, rob Lf N, rob Rf N, rob us N, some ⟨.loop r, tm⟩, A (N + 1) 12 13, B (N + 1), C (N + 1), Z (N + 1), W (N + 1)])
    (hQ2 : ∀ r' A' B' C', Fs r' A' B' C' → Q (.tup []) [bS N P Q', bX N a b, bU N, some ⟨.ro, scs (2 ^ N) g⟩, some ⟨.ro, scs (2 ^ N) h⟩, rob Lf N, rob Rf N, rob us N, some ⟨.loop r', tm⟩, A', B', C'])
    (t : Nat) (c d : Cap) (ht : t ≤ N) (hc : CapOk c (2 ^ (N - t))) (hd : CapOk d (2 ^ (N - t))) (g0 : some (⟨.ro, scs (2 ^ (N - t)) (Gs us g N t)⟩ : Blk) = some ⟨.ro, scs (2 ^ N) g⟩ ∨ 03 = 13) (h0 : some (⟨.ro, scs (2 ^ (N - t)) (Hs us h N t)⟩ : Blk) = some ⟨.ro, scs (2 ^ N) h⟩ ∨ 03 = 13)
    (next : t < N → RunM Tryd.prog G 60 12 {} Q ([TI.l v60_9, TI.b 0], ⟨tm60 (t + 1), hd1 us g h Lf Rf N P Q' a b r tm A B C Z W (t + 1) (.exact (2 ^ (N - (t + 1)))) (.exact (2 ^ (N - (t + 1))))⟩)) :
    RunM Tryd.prog G 60 12 {} Q ([TI.l v60_9, TI.b 0], ⟨tm60 t, hd0 us g h Lf Rf N P Q' a b r tm A B C Z W t c d⟩) := by
  have hp : 2 ^ N ≤ 2 ^ 10 := Nat.pow_le_pow_right (by decide) hN
  have hp0 : 0 < 2 ^ N := Nat.two_pow_pos N
  have hft : ∀ f, (∀ j, j < 12 → f j = j) → bfit f (bS N P Q') (bS N P Q') := fun f hf => by
    unfold bS
    exact bfit_same (by simp only [rens_append, lc_rens, rens, ren, hf 3 (by decide), hf 4 (by decide)])
  have hft2 : ∀ f, (∀ j, j < 12 → f j = j) → bfit f (bX N a b) (bX N a b) := fun f hf => by
    unfold bX
    exact bfit_same (by simp only [rens_append, lc_rens, rens, dv_ren, hf 5 (by decide), hf 6 (by decide)])
  have hft3 : ∀ f, (∀ j, j < 12 → f j = j) → bfit f (bU N) (bU N) := fun f hf => by
    unfold bU
    exact bfit_same (by simp only [rens, dv_ren, hf 7 (by decide)])
  have hlp : ∀ f : Nat → Nat, (∀ j, j < 12 → f j = j) → bfit f (some ⟨.loop r, tm⟩) (some ⟨.loop r, tm⟩) := fun f hf => ⟨.inl rfl, htm f hf⟩
  unfold tm60 hd0 bS bX bU
  refine run_loop_eq v60_9.eq_1 ?_
  refine run_driveS 80 ?_
  simp only [go_sem, Nat.reduceAdd, Nat.reduceSub, Nat.reduceLeDiff, Nat.reduceMul, Nat.reduceLT, Nat.reduceEqDiff, Int.reduceLT, Int.reduceLE, Int.reduceAdd, Int.reduceSub, Int.reduceMul, Int.reduceToNat, reduceIte, reduceCtorEq, Nat.reduceBEq, v60_7, v60_3]
  have hn := Nat.two_pow_pos (N - t)
  have hn9 : 2 ^ (N - t) ≤ 2 ^ N := Nat.pow_le_pow_right (by decide) (by omega)
  have e0 : (2 ^ (N - t) = 0) = False := eq_false (by omega)
  have e1 : (2 ^ (N - t) * 32 ≤ 281474976710656) = True := eq_true (by omega)
  have e2 : (2 ^ (N - t) ≤ 9223372036854775807) = True := eq_true (by omega)
  refine run_drw (by kernel_rfl) ?_
  refine drun_drive 40 (p := (_, _)) ?_
  simp only [go_sem, Nat.reduceAdd, Nat.reduceSub, Nat.reduceLeDiff, Nat.reduceMul, Nat.reduceLT, Nat.reduceEqDiff, Int.reduceLT, Int.reduceLE, Int.reduceAdd, Int.reduceSub, Int.reduceMul, Int.reduceToNat, reduceIte, reduceCtorEq, Nat.reduceBEq, v60_4, e0, e1, e2, scs_tk, look_ro, restore, Option.join_some, maskH, List.mapIdx_cons, List.mapIdx_nil, List.contains_cons, List.contains_nil, Bool.or_false, Bool.or_true, Bool.false_or, Bool.true_or, Nat.reduceBEq]
  rw [st_t9, st_d10, st_ap]
  refine drun_end ?_
  refine run_driveS 80 ?_
  simp only [go_sem, Nat.reduceAdd, Nat.reduceSub, Nat.reduceLeDiff, Nat.reduceMul, Nat.reduceLT, Nat.reduceEqDiff, Int.reduceLT, Int.reduceLE, Int.reduceAdd, Int.reduceSub, Int.reduceMul, Int.reduceToNat, reduceIte, reduceCtorEq, Nat.reduceBEq, v60_5]
  refine run_yield' 8 rfl rfl ⟨.loop r, tm⟩ rfl rfl (YCall.mono (hY t ht _ _ _ _ _ _ _ _ _ _ _ _) ?_)
  rintro v h' (⟨rfl, X, rfl⟩ | ⟨rfl, r', A', B', C', X, rfl, fA, fB, fC, hF⟩)
  · refine trim20 (uniq20 rfl) ?_ ?_
    rotate_left
    · intro f hf
      refine ⟨by simp only [go_sem, Nat.reduceAdd, Nat.reduceSub, Nat.reduceLeDiff, Nat.reduceMul, Nat.reduceLT, Nat.reduceEqDiff, Int.reduceLT, Int.reduceLE, Int.reduceAdd, Int.reduceSub, Int.reduceMul, Int.reduceToNat, reduceIte, reduceCtorEq, Nat.reduceBEq, fit, ren, hf 0, hf 1, hf 2, hf 3, hf 4, hf 8, hf 12, hf 13, hf 14, hf 17, hf 18, hf 19, rens_append, lc_rens, rens, true_or, or_true], ?_⟩
      refine ⟨hft f fun j hj => hf j (by omega), hft2 f fun j hj => hf j (by omega), hft3 f fun j hj => hf j (by omega), ?_⟩
      have hA1 := hA f (t + 1) 18 19
      rw [hf 18 (by decide), hf 19 (by decide)] at hA1
      exact ⟨bfit_same (scs_rens ..), bfit_same (scs_rens ..), bfit_rob, bfit_rob, bfit_rob, hlp f (fun j hj => hf j (by omega)), hA1, hB f _, hC f _, bfit_st (hf _ (by decide)) (hf _ (by decide)), by first | trivial | exact bfit_same (scs_rens ..), by first | trivial | exact bfit_same (scs_rens ..), hZ f _, hW f _, bfit_st (hf _ (by decide)) (hf _ (by decide)), hZ f _, hW f _⟩
    by_cases hN' : t = N
    · subst hN'
      refine run_driveS 80 ?_
      simp only [go_sem, Nat.reduceAdd, Nat.reduceSub, Nat.reduceLeDiff, Nat.reduceMul, Nat.reduceLT, Nat.reduceEqDiff, Int.reduceLT, Int.reduceLE, Int.reduceAdd, Int.reduceSub, Int.reduceMul, Int.reduceToNat, reduceIte, reduceCtorEq, Nat.reduceBEq, lenO_dv, eq_int, decide_true]
      refine run_cond_t (by rfl) ?_
      refine run_ret_drop Tryd.func60 res60 [0, 1, 2, 3, 4, 5, 6, 7, 8, 9, 10, 11, 18, 19] (.tup []) _ rfl (by simp) ?_ ?_ ?_ hQ1
      · refine hfit_cons rfl ?_ (hfit_cons rfl ?_ (hfit_cons rfl ?_ (hfit_cons rfl ?_ (hfit_cons rfl ?_ (hfit_cons rfl ?_ (hfit_cons rfl ?_ (hfit_cons rfl ?_ (hfit_cons rfl ?_ (hfit_cons rfl ?_ (hfit_cons rfl ?_ (hfit_cons rfl ?_ (hfit_cons rfl ?_ (hfit_cons rfl ?_ hfit_nil)))))))))))))
        all_goals first | trivial | exact hft _ (fun j hj => gmap_r14 hj) | exact hft2 _ (fun j hj => gmap_r14 hj) | exact hft3 _ (fun j hj => gmap_r14 hj) | exact bfit_rob | exact hlp _ (fun j hj => gmap_r14 hj) | exact hA _ _ 12 13 | exact hB _ _ | exact hC _ _ | exact hZ _ _ | exact hW _ _ | exact bfit_same (scs_rens ..) | exact bfit_or g0 (by decide) (bfit_same (scs_rens ..)) | exact bfit_or h0 (by decide) (bfit_same (scs_rens ..)) | (simp only [go_sem, Nat.reduceAdd, Nat.reduceSub, Nat.reduceLeDiff, Nat.reduceMul, Nat.reduceLT, Nat.reduceEqDiff, Int.reduceLT, Int.reduceLE, Int.reduceAdd, Int.reduceSub, Int.reduceMul, Int.reduceToNat, reduceIte, reduceCtorEq, Nat.reduceBEq, bfit, lc_fit, scs_fit, fit, ren, gmap, lw_plain, true_or, or_true])
      · exact uniq_nodup (by decide)
      · simp only [go_sem, Nat.reduceAdd, Nat.reduceSub, Nat.reduceLeDiff, Nat.reduceMul, Nat.reduceLT, Nat.reduceEqDiff, Int.reduceLT, Int.reduceLE, Int.reduceAdd, Int.reduceSub, Int.reduceMul, Int.reduceToNat, reduceIte, reduceCtorEq, Nat.reduceBEq, rr60, ren, rens, gmap]
    · have hN0 : 0 < N := by omega
      have hgl := scs_get' N Lf (i := t) (by omega)
      have hgr := scs_get' N Rf (i := t) (by omega)
      have hgu := scs_get' N us (i := t) (by omega)
      have t0 : ((t : Int) < (N : Int)) = True := eq_true (by omega)
      simp only [dv_pos hN0, rob_pos hN0]
      refine run_driveS 80 ?_
      simp only [go_sem, Nat.reduceAdd, Nat.reduceSub, Nat.reduceLeDiff, Nat.reduceMul, Nat.reduceLT, Nat.reduceEqDiff, Int.reduceLT, Int.reduceLE, Int.reduceAdd, Int.reduceSub, Int.reduceMul, Int.reduceToNat, reduceIte, reduceCtorEq, Nat.reduceBEq, lenO_sl, eq_int, decide_eq_false hN']
      refine run_cond_f (by rfl) ?_
      refine run_driveS 80 ?_
      simp only [go_sem, Nat.reduceAdd, Nat.reduceSub, Nat.reduceLeDiff, Nat.reduceMul, Nat.reduceLT, Nat.reduceEqDiff, Int.reduceLT, Int.reduceLE, Int.reduceAdd, Int.reduceSub, Int.reduceMul, Int.reduceToNat, reduceIte, reduceCtorEq, Nat.reduceBEq]
      refine run_drw (by kernel_rfl) ?_
      refine drun_drive 40 (p := (_, _)) ?_
      simp only [go_sem, Nat.reduceAdd, Nat.reduceSub, Nat.reduceLeDiff, Nat.reduceMul, Nat.reduceLT, Nat.reduceEqDiff, Int.reduceLT, Int.reduceLE, Int.reduceAdd, Int.reduceSub, Int.reduceMul, Int.reduceToNat, reduceIte, reduceCtorEq, Nat.reduceBEq, v60_6, t0, hgl, hgr, hgu, restore, Option.join_some, maskH, List.mapIdx_cons, List.mapIdx_nil, List.contains_cons, List.contains_nil, Bool.or_false, Bool.or_true, Bool.false_or, Bool.true_or, Nat.reduceBEq]
      have hm2 : 2 ^ (N - t) = 2 * 2 ^ (N - (t + 1)) := by rw [← Nat.pow_succ']; congr 1; omega
      have hm : 0 < 2 ^ (N - (t + 1)) := Nat.two_pow_pos _
      rw [hm2] at g0 h0 hc hd hn9 ⊢
      refine drun_call' ?_
      simp only [go_sem, Nat.reduceAdd, Nat.reduceSub, Nat.reduceLeDiff, Nat.reduceMul, Nat.reduceLT, Nat.reduceEqDiff, Int.reduceLT, Int.reduceLE, Int.reduceAdd, Int.reduceSub, Int.reduceMul, Int.reduceToNat, reduceIte, reduceCtorEq, Nat.reduceBEq, calV, restore, Option.join_some, maskH, List.mapIdx_cons, List.mapIdx_nil, List.contains_cons, List.contains_nil, Bool.or_false, Bool.or_true, Bool.false_or, Bool.true_or, Nat.reduceBEq]
      refine vcall_at (folded_ hG (Ps us Lf Rf P t) Q' (Lf t) (Rf t) (us t) (2 ^ (N - (t + 1))) (Ps_lt hP t) hQ' (hL t) (hR t) (hus t) hm (by omega) c d hc hd (Gs us g N t) (Hs us h N t) (Gs_lt hg t) (Hs_lt hh t) (fun v k => v = stL (pf1 (Ps us Lf Rf P t) (Lf t) (Rf t) (us t)) Q' (.sl 2 0 (2 ^ (N - (t + 1))) (.exact (2 ^ (N - (t + 1))))) (.sl 3 0 (2 ^ (N - (t + 1))) (.exact (2 ^ (N - (t + 1))))) ∧ k = [some ⟨.ro, scs (2 * 2 ^ (N - (t + 1))) (Gs us g N t)⟩, some ⟨.ro, scs (2 * 2 ^ (N - (t + 1))) (Hs us h N t)⟩, some ⟨.rw, scs (2 ^ (N - (t + 1))) (Gs us g N (t + 1))⟩, some ⟨.rw, scs (2 ^ (N - (t + 1))) (Hs us h N (t + 1))⟩]) ⟨rfl, rfl⟩) [03, 04] (by simp) ?_ ?_ ?_ ?_
      · refine hfit_cons rfl ?_ (hfit_cons rfl ?_ hfit_nil)
        all_goals first | trivial | exact bfit_same (scs_rens ..) | (simp only [go_sem, Nat.reduceAdd, Nat.reduceSub, Nat.reduceLeDiff, Nat.reduceMul, Nat.reduceLT, Nat.reduceEqDiff, Int.reduceLT, Int.reduceLE, Int.reduceAdd, Int.reduceSub, Int.reduceMul, Int.reduceToNat, reduceIte, reduceCtorEq, Nat.reduceBEq, bfit, lc_fit, scs_fit, fit, ren, gmap, lw_plain, true_or, or_true])
      · simp [uniq, wrB]
      · simp only [rens, ren, gmap, stL, lw_plain, rens_append, lc_rens]
      · rintro v k ⟨rfl, rfl⟩
        rw [puts_ro (by simp [wrB]) rfl (by simp)]
        simp only [List.map_cons, List.map_nil, Option.map_some, renB, scs_rens, rens_append, lc_rens, rens, ren, gmap, stL, List.drop_succ_cons, List.drop_zero, List.cons_append, List.nil_append, List.length_cons, List.length_nil, Nat.reduceAdd]
        refine drun_drive 40 (p := (_, _)) ?_
        simp only [go_sem, Nat.reduceAdd, Nat.reduceSub, Nat.reduceLeDiff, Nat.reduceMul, Nat.reduceLT, Nat.reduceEqDiff, Int.reduceLT, Int.reduceLE, Int.reduceAdd, Int.reduceSub, Int.reduceMul, Int.reduceToNat, reduceIte, reduceCtorEq, Nat.reduceBEq, restore, Option.join_some, maskH, List.mapIdx_cons, List.mapIdx_nil, List.contains_cons, List.contains_nil, Bool.or_false, Bool.or_true, Bool.false_or, Bool.true_or, Nat.reduceBEq]
        refine drun_end ?_
        have hw : IntKind.i64.wrap ((t : Int) + 1) = ((t + 1 : Nat) : Int) := by rw [wrap_i64 (by omega) (by omega)]; omega
        refine run_driveS 80 ?_
        simp only [go_sem, Nat.reduceAdd, Nat.reduceSub, Nat.reduceLeDiff, Nat.reduceMul, Nat.reduceLT, Nat.reduceEqDiff, Int.reduceLT, Int.reduceLE, Int.reduceAdd, Int.reduceSub, Int.reduceMul, Int.reduceToNat, reduceIte, reduceCtorEq, Nat.reduceBEq, v60_8, hw]
        have hx2 : bX N a b = some ⟨.ro, V.sl 5 0 N (.grow 4) :: V.sl 6 0 N (.grow 4) :: (lc a ++ lc b)⟩ := by unfold bX; rw [dv_pos hN0, dv_pos hN0]
        have hx3 : bU N = some ⟨.ro, [V.sl 7 0 N (.grow 4)]⟩ := by unfold bU; rw [dv_pos hN0]
        refine run_rename [0, 1, 2, 3, 4, 5, 6, 7, 8, 9, 10, 11, 12, 20, 21, 18, 19] rfl (by simp) ?_ ?_ ?_ (next (by omega))
        · unfold hd1
          refine hfit_cons rfl ?_ (hfit_cons rfl ?_ (hfit_cons rfl ?_ (hfit_cons rfl ?_ (hfit_cons rfl ?_ (hfit_cons rfl ?_ (hfit_cons rfl ?_ (hfit_cons rfl ?_ (hfit_cons rfl ?_ (hfit_cons rfl ?_ (hfit_cons rfl ?_ (hfit_cons rfl ?_ (hfit_cons rfl ?_ (hfit_cons rfl ?_ (hfit_cons rfl ?_ (hfit_cons rfl ?_ (hfit_cons rfl ?_ hfit_nil))))))))))))))))
          all_goals first | trivial | exact hft _ (fun j hj => gmap_r17 hj) | exact bfit_cast hx2 (hft2 _ (fun j hj => gmap_r17 hj)) | exact bfit_cast hx3 (hft3 _ (fun j hj => gmap_r17 hj)) | exact bfit_cast (rob_pos hN0) bfit_rob | exact hlp _ (fun j hj => gmap_r17 hj) | exact hA _ _ 15 16 | exact hB _ _ | exact hC _ _ | exact hZ _ _ | exact hW _ _ | exact bfit_st2 rfl rfl | exact bfit_same (scs_rens ..) | exact bfit_or g0 (by decide) (bfit_same (scs_rens ..)) | exact bfit_or h0 (by decide) (bfit_same (scs_rens ..)) | (simp only [go_sem, Nat.reduceAdd, Nat.reduceSub, Nat.reduceLeDiff, Nat.reduceMul, Nat.reduceLT, Nat.reduceEqDiff, Int.reduceLT, Int.reduceLE, Int.reduceAdd, Int.reduceSub, Int.reduceMul, Int.reduceToNat, reduceIte, reduceCtorEq, Nat.reduceBEq, bfit, lc_fit, scs_fit, fit, ren, gmap, lw_plain, true_or, or_true])
        · exact uniq_nodup (by decide)
        · unfold tm60
          simp only [go_sem, Nat.reduceAdd, Nat.reduceSub, Nat.reduceLeDiff, Nat.reduceMul, Nat.reduceLT, Nat.reduceEqDiff, Int.reduceLT, Int.reduceLE, Int.reduceAdd, Int.reduceSub, Int.reduceMul, Int.reduceToNat, reduceIte, reduceCtorEq, Nat.reduceBEq, hfit, lc_fit, scs_fit, fit, ren, gmap, lw_plain, true_or, or_true]
  · refine run_driveS 80 ?_
    simp only [go_sem, Nat.reduceAdd, Nat.reduceSub, Nat.reduceLeDiff, Nat.reduceMul, Nat.reduceLT, Nat.reduceEqDiff, Int.reduceLT, Int.reduceLE, Int.reduceAdd, Int.reduceSub, Int.reduceMul, Int.reduceToNat, reduceIte, reduceCtorEq, Nat.reduceBEq]
    refine run_cond_t (by rfl) ?_
    refine run_ret_drop Tryd.func60 res60 [0, 1, 2, 3, 4, 5, 6, 7, 8, 9, 10, 11] (.tup []) _ rfl (by simp) ?_ ?_ ?_ (hQ2 r' A' B' C' hF)
    · refine hfit_cons rfl ?_ (hfit_cons rfl ?_ (hfit_cons rfl ?_ (hfit_cons rfl ?_ (hfit_cons rfl ?_ (hfit_cons rfl ?_ (hfit_cons rfl ?_ (hfit_cons rfl ?_ (hfit_cons rfl ?_ (hfit_cons rfl ?_ (hfit_cons rfl ?_ (hfit_cons rfl ?_ hfit_nil)))))))))))
      all_goals first | trivial | exact hft _ (fun j hj => gmap_r12 hj) | exact hft2 _ (fun j hj => gmap_r12 hj) | exact hft3 _ (fun j hj => gmap_r12 hj) | exact bfit_rob | exact (⟨.inl rfl, htm _ (fun j hj => gmap_r12 hj)⟩) | exact fA _ | exact fB _ | exact fC _ | exact bfit_same (scs_rens ..) | exact bfit_or g0 (by decide) (bfit_same (scs_rens ..)) | exact bfit_or h0 (by decide) (bfit_same (scs_rens ..)) | (simp only [go_sem, Nat.reduceAdd, Nat.reduceSub, Nat.reduceLeDiff, Nat.reduceMul, Nat.reduceLT, Nat.reduceEqDiff, Int.reduceLT, Int.reduceLE, Int.reduceAdd, Int.reduceSub, Int.reduceMul, Int.reduceToNat, reduceIte, reduceCtorEq, Nat.reduceBEq, bfit, lc_fit, scs_fit, fit, ren, gmap, lw_plain, true_or, or_true])
    · exact uniq_nodup (by decide)
    · simp only [go_sem, Nat.reduceAdd, Nat.reduceSub, Nat.reduceLeDiff, Nat.reduceMul, Nat.reduceLT, Nat.reduceEqDiff, Int.reduceLT, Int.reduceLE, Int.reduceAdd, Int.reduceSub, Int.reduceMul, Int.reduceToNat, reduceIte, reduceCtorEq, Nat.reduceBEq, rr60, ren, rens, gmap]
theorem step1 (hG : G 0 = tbl) (hN : N ≤ 10) (hus : ∀ j, us j < 115792089237316195423570985008687907853269984665640564039457584007913129639936) (hz : ∀ j, j < N → us j % ell ≠ 0) (hg : ∀ j, g j < 115792089237316195423570985008687907853269984665640564039457584007913129639936) (hh : ∀ j, h j < 115792089237316195423570985008687907853269984665640564039457584007913129639936) (hL : ∀ j, Lf j < 115792089237316195423570985008687907853269984665640564039457584007913129639936) (hR : ∀ j, Rf j < 115792089237316195423570985008687907853269984665640564039457584007913129639936) (hP : P < 115792089237316195423570985008687907853269984665640564039457584007913129639936) (hQ' : Q' < 115792089237316195423570985008687907853269984665640564039457584007913129639936) (htm : ∀ f : Nat → Nat, (∀ j, j < 12 → f j = j) → fit f tm tm)
    (hA : ∀ f t i j, bfit f (A t i j) (A t (f i) (f j))) (hB : ∀ f t, bfit f (B t) (B t)) (hC : ∀ f t, bfit f (C t) (C t)) (hZ : ∀ f t, bfit f (Z t) (Z t)) (hW : ∀ f t, bfit f (W t) (W t)) (hZ0 : Z 0 = none) (hW0 : W 0 = none) (hA0 : ∀ i j, A 0 i j = A 0 0 0)
    (Q : V → Heap → Prop) (Fs : Loop → Option Blk → Option Blk → Option Blk → Prop)
    (hY : ∀ t, t ≤ N → ∀ B0 B1 B2 B3 B4 B5 B6 B7 B12 B13 B14 B17, YCall Tryd.prog G 8 [stL (Ps us Lf Rf P t) Q' (.sl 18 0 (2 ^ (N - t)) (.grow 4)) (.sl 19 0 (2 ^ (N - t)) (.grow 4))]
      [B0, B1, B2, B3, B4, B5, B6, B7, some ⟨.loop r, tm⟩, A t 15 16, B t, C t, B12, B13, B14, Z t, W t, B17, some ⟨.grow, scs (2 ^ (N - t)) (Gs us g N t)⟩, some ⟨.grow, scs (2 ^ (N - t)) (Hs us h N t)⟩]
      fun v h' => (v = .bool true ∧ ∃ X, h' = B0 :: B1 :: B2 :: B3 :: B4 :: B5 :: B6 :: B7 :: some ⟨.loop r, tm⟩ :: A (t + 1) 18 19 :: B (t + 1) :: C (t + 1) :: B12 :: B13 :: B14 :: Z t :: W t :: B17 :: Z (t + 1) :: W (t + 1) :: X) ∨
        (v = .bool false ∧ ∃ r' A' B' C' X, h' = B0 :: B1 :: B2 :: B3 :: B4 :: B5 :: B6 :: B7 :: some ⟨.loop r', tm⟩ :: A' :: B' :: C' :: X ∧ (∀ f, bfit f A' A') ∧ (∀ f, bfit f B' B') ∧ (∀ f, bfit f C' C') ∧ Fs r' A' B' C'))
    (hQ1 : Q (.tup []) [bS N P Q', bX N a b, bU N, some ⟨.ro, scs (2 ^ N) g⟩, some ⟨.ro, scs (2 ^ N) h⟩, rob Lf N, rob Rf N, rob us N, some ⟨.loop r, tm⟩, A (N + 1) 12 13, B (N + 1), C (N + 1), Z (N + 1), W (N + 1)])
    (hQ2 : ∀ r' A' B' C', Fs r' A' B' C' → Q (.tup []) [bS N P Q', bX N a b, bU N, some ⟨.ro, scs (2 ^ N) g⟩, some ⟨.ro, scs (2 ^ N) h⟩, rob Lf N, rob Rf N, rob us N, some ⟨.loop r', tm⟩, A', B', C'])
    (t : Nat) (c d : Cap) (ht : t ≤ N) (hc : CapOk c (2 ^ (N - t))) (hd : CapOk d (2 ^ (N - t))) (g0 : some (⟨.ro, scs (2 ^ (N - t)) (Gs us g N t)⟩ : Blk) = some ⟨.ro, scs (2 ^ N) g⟩ ∨ 13 = 13) (h0 : some (⟨.ro, scs (2 ^ (N - t)) (Hs us h N t)⟩ : Blk) = some ⟨.ro, scs (2 ^ N) h⟩ ∨ 13 = 13)
    (next : t < N → RunM Tryd.prog G 60 12 {} Q ([TI.l v60_9, TI.b 0], ⟨tm60 (t + 1), hd1 us g h Lf Rf N P Q' a b r tm A B C Z W (t + 1) (.exact (2 ^ (N - (t + 1)))) (.exact (2 ^ (N - (t + 1))))⟩)) :
    RunM Tryd.prog G 60 12 {} Q ([TI.l v60_9, TI.b 0], ⟨tm60 t, hd1 us g h Lf Rf N P Q' a b r tm A B C Z W t c d⟩) := by
  have hp : 2 ^ N ≤ 2 ^ 10 := Nat.pow_le_pow_right (by decide) hN
  have hp0 : 0 < 2 ^ N := Nat.two_pow_pos N
  have hft : ∀ f, (∀ j, j < 12 → f j = j) → bfit f (bS N P Q') (bS N P Q') := fun f hf => by
    unfold bS
    exact bfit_same (by simp only [rens_append, lc_rens, rens, ren, hf 3 (by decide), hf 4 (by decide)])
  have hft2 : ∀ f, (∀ j, j < 12 → f j = j) → bfit f (bX N a b) (bX N a b) := fun f hf => by
    unfold bX
    exact bfit_same (by simp only [rens_append, lc_rens, rens, dv_ren, hf 5 (by decide), hf 6 (by decide)])
  have hft3 : ∀ f, (∀ j, j < 12 → f j = j) → bfit f (bU N) (bU N) := fun f hf => by
    unfold bU
    exact bfit_same (by simp only [rens, dv_ren, hf 7 (by decide)])
  have hlp : ∀ f : Nat → Nat, (∀ j, j < 12 → f j = j) → bfit f (some ⟨.loop r, tm⟩) (some ⟨.loop r, tm⟩) := fun f hf => ⟨.inl rfl, htm f hf⟩
  unfold tm60 hd1 bS bX bU
  refine run_loop_eq v60_9.eq_1 ?_
  refine run_driveS 80 ?_
  simp only [go_sem, Nat.reduceAdd, Nat.reduceSub, Nat.reduceLeDiff, Nat.reduceMul, Nat.reduceLT, Nat.reduceEqDiff, Int.reduceLT, Int.reduceLE, Int.reduceAdd, Int.reduceSub, Int.reduceMul, Int.reduceToNat, reduceIte, reduceCtorEq, Nat.reduceBEq, v60_7, v60_3]
  have hn := Nat.two_pow_pos (N - t)
  have hn9 : 2 ^ (N - t) ≤ 2 ^ N := Nat.pow_le_pow_right (by decide) (by omega)
  have e0 : (2 ^ (N - t) = 0) = False := eq_false (by omega)
  have e1 : (2 ^ (N - t) * 32 ≤ 281474976710656) = True := eq_true (by omega)
  have e2 : (2 ^ (N - t) ≤ 9223372036854775807) = True := eq_true (by omega)
  refine run_drw (by kernel_rfl) ?_
  refine drun_drive 40 (p := (_, _)) ?_
  simp only [go_sem, Nat.reduceAdd, Nat.reduceSub, Nat.reduceLeDiff, Nat.reduceMul, Nat.reduceLT, Nat.reduceEqDiff, Int.reduceLT, Int.reduceLE, Int.reduceAdd, Int.reduceSub, Int.reduceMul, Int.reduceToNat, reduceIte, reduceCtorEq, Nat.reduceBEq, v60_4, e0, e1, e2, scs_tk, look_ro, restore, Option.join_some, maskH, List.mapIdx_cons, List.mapIdx_nil, List.contains_cons, List.contains_nil, Bool.or_false, Bool.or_true, Bool.false_or, Bool.true_or, Nat.reduceBEq]
  rw [st_t9, st_d10, st_ap]
  refine drun_end ?_
  refine run_driveS 80 ?_
  simp only [go_sem, Nat.reduceAdd, Nat.reduceSub, Nat.reduceLeDiff, Nat.reduceMul, Nat.reduceLT, Nat.reduceEqDiff, Int.reduceLT, Int.reduceLE, Int.reduceAdd, Int.reduceSub, Int.reduceMul, Int.reduceToNat, reduceIte, reduceCtorEq, Nat.reduceBEq, v60_5]
  refine run_yield' 8 rfl rfl ⟨.loop r, tm⟩ rfl rfl (YCall.mono (hY t ht _ _ _ _ _ _ _ _ _ _ _ _) ?_)
  rintro v h' (⟨rfl, X, rfl⟩ | ⟨rfl, r', A', B', C', X, rfl, fA, fB, fC, hF⟩)
  · refine trim20 (uniq20 rfl) ?_ ?_
    rotate_left
    · intro f hf
      refine ⟨by simp only [go_sem, Nat.reduceAdd, Nat.reduceSub, Nat.reduceLeDiff, Nat.reduceMul, Nat.reduceLT, Nat.reduceEqDiff, Int.reduceLT, Int.reduceLE, Int.reduceAdd, Int.reduceSub, Int.reduceMul, Int.reduceToNat, reduceIte, reduceCtorEq, Nat.reduceBEq, fit, ren, hf 0, hf 1, hf 2, hf 3, hf 4, hf 8, hf 12, hf 13, hf 14, hf 17, hf 18, hf 19, rens_append, lc_rens, rens, true_or, or_true], ?_⟩
      refine ⟨hft f fun j hj => hf j (by omega), hft2 f fun j hj => hf j (by omega), hft3 f fun j hj => hf j (by omega), ?_⟩
      have hA1 := hA f (t + 1) 18 19
      rw [hf 18 (by decide), hf 19 (by decide)] at hA1
      exact ⟨bfit_same (scs_rens ..), bfit_same (scs_rens ..), bfit_rob, bfit_rob, bfit_rob, hlp f (fun j hj => hf j (by omega)), hA1, hB f _, hC f _, bfit_st (hf _ (by decide)) (hf _ (by decide)), by first | trivial | exact bfit_same (scs_rens ..), by first | trivial | exact bfit_same (scs_rens ..), hZ f _, hW f _, bfit_st (hf _ (by decide)) (hf _ (by decide)), hZ f _, hW f _⟩
    by_cases hN' : t = N
    · subst hN'
      refine run_driveS 80 ?_
      simp only [go_sem, Nat.reduceAdd, Nat.reduceSub, Nat.reduceLeDiff, Nat.reduceMul, Nat.reduceLT, Nat.reduceEqDiff, Int.reduceLT, Int.reduceLE, Int.reduceAdd, Int.reduceSub, Int.reduceMul, Int.reduceToNat, reduceIte, reduceCtorEq, Nat.reduceBEq, lenO_dv, eq_int, decide_true]
      refine run_cond_t (by rfl) ?_
      refine run_ret_drop Tryd.func60 res60 [0, 1, 2, 3, 4, 5, 6, 7, 8, 9, 10, 11, 18, 19] (.tup []) _ rfl (by simp) ?_ ?_ ?_ hQ1
      · refine hfit_cons rfl ?_ (hfit_cons rfl ?_ (hfit_cons rfl ?_ (hfit_cons rfl ?_ (hfit_cons rfl ?_ (hfit_cons rfl ?_ (hfit_cons rfl ?_ (hfit_cons rfl ?_ (hfit_cons rfl ?_ (hfit_cons rfl ?_ (hfit_cons rfl ?_ (hfit_cons rfl ?_ (hfit_cons rfl ?_ (hfit_cons rfl ?_ hfit_nil)))))))))))))
        all_goals first | trivial | exact hft _ (fun j hj => gmap_r14 hj) | exact hft2 _ (fun j hj => gmap_r14 hj) | exact hft3 _ (fun j hj => gmap_r14 hj) | exact bfit_rob | exact hlp _ (fun j hj => gmap_r14 hj) | exact hA _ _ 12 13 | exact hB _ _ | exact hC _ _ | exact hZ _ _ | exact hW _ _ | exact bfit_same (scs_rens ..) | exact bfit_or g0 (by decide) (bfit_same (scs_rens ..)) | exact bfit_or h0 (by decide) (bfit_same (scs_rens ..)) | (simp only [go_sem, Nat.reduceAdd, Nat.reduceSub, Nat.reduceLeDiff, Nat.reduceMul, Nat.reduceLT, Nat.reduceEqDiff, Int.reduceLT, Int.reduceLE, Int.reduceAdd, Int.reduceSub, Int.reduceMul, Int.reduceToNat, reduceIte, reduceCtorEq, Nat.reduceBEq, bfit, lc_fit, scs_fit, fit, ren, gmap, lw_plain, true_or, or_true])
      · exact uniq_nodup (by decide)
      · simp only [go_sem, Nat.reduceAdd, Nat.reduceSub, Nat.reduceLeDiff, Nat.reduceMul, Nat.reduceLT, Nat.reduceEqDiff, Int.reduceLT, Int.reduceLE, Int.reduceAdd, Int.reduceSub, Int.reduceMul, Int.reduceToNat, reduceIte, reduceCtorEq, Nat.reduceBEq, rr60, ren, rens, gmap]
    · have hN0 : 0 < N := by omega
      have hgl := scs_get' N Lf (i := t) (by omega)
      have hgr := scs_get' N Rf (i := t) (by omega)
      have hgu := scs_get' N us (i := t) (by omega)
      have t0 : ((t : Int) < (N : Int)) = True := eq_true (by omega)
      simp only [dv_pos hN0, rob_pos hN0]
      refine run_driveS 80 ?_
      simp only [go_sem, Nat.reduceAdd, Nat.reduceSub, Nat.reduceLeDiff, Nat.reduceMul, Nat.reduceLT, Nat.reduceEqDiff, Int.reduceLT, Int.reduceLE, Int.reduceAdd, Int.reduceSub, Int.reduceMul, Int.reduceToNat, reduceIte, reduceCtorEq, Nat.reduceBEq, lenO_sl, eq_int, decide_eq_false hN']
      refine run_cond_f (by rfl) ?_
      refine run_driveS 80 ?_
      simp only [go_sem, Nat.reduceAdd, Nat.reduceSub, Nat.reduceLeDiff, Nat.reduceMul, Nat.reduceLT, Nat.reduceEqDiff, Int.reduceLT, Int.reduceLE, Int.reduceAdd, Int.reduceSub, Int.reduceMul, Int.reduceToNat, reduceIte, reduceCtorEq, Nat.reduceBEq]
      refine run_drw (by kernel_rfl) ?_
      refine drun_drive 40 (p := (_, _)) ?_
      simp only [go_sem, Nat.reduceAdd, Nat.reduceSub, Nat.reduceLeDiff, Nat.reduceMul, Nat.reduceLT, Nat.reduceEqDiff, Int.reduceLT, Int.reduceLE, Int.reduceAdd, Int.reduceSub, Int.reduceMul, Int.reduceToNat, reduceIte, reduceCtorEq, Nat.reduceBEq, v60_6, t0, hgl, hgr, hgu, restore, Option.join_some, maskH, List.mapIdx_cons, List.mapIdx_nil, List.contains_cons, List.contains_nil, Bool.or_false, Bool.or_true, Bool.false_or, Bool.true_or, Nat.reduceBEq]
      have hm2 : 2 ^ (N - t) = 2 * 2 ^ (N - (t + 1)) := by rw [← Nat.pow_succ']; congr 1; omega
      have hm : 0 < 2 ^ (N - (t + 1)) := Nat.two_pow_pos _
      rw [hm2] at g0 h0 hc hd hn9 ⊢
      refine drun_call' ?_
      simp only [go_sem, Nat.reduceAdd, Nat.reduceSub, Nat.reduceLeDiff, Nat.reduceMul, Nat.reduceLT, Nat.reduceEqDiff, Int.reduceLT, Int.reduceLE, Int.reduceAdd, Int.reduceSub, Int.reduceMul, Int.reduceToNat, reduceIte, reduceCtorEq, Nat.reduceBEq, calV, restore, Option.join_some, maskH, List.mapIdx_cons, List.mapIdx_nil, List.contains_cons, List.contains_nil, Bool.or_false, Bool.or_true, Bool.false_or, Bool.true_or, Nat.reduceBEq]
      refine vcall_at (folded_ hG (Ps us Lf Rf P t) Q' (Lf t) (Rf t) (us t) (2 ^ (N - (t + 1))) (Ps_lt hP t) hQ' (hL t) (hR t) (hus t) hm (by omega) c d hc hd (Gs us g N t) (Hs us h N t) (Gs_lt hg t) (Hs_lt hh t) (fun v k => v = stL (pf1 (Ps us Lf Rf P t) (Lf t) (Rf t) (us t)) Q' (.sl 2 0 (2 ^ (N - (t + 1))) (.exact (2 ^ (N - (t + 1))))) (.sl 3 0 (2 ^ (N - (t + 1))) (.exact (2 ^ (N - (t + 1))))) ∧ k = [some ⟨.ro, scs (2 * 2 ^ (N - (t + 1))) (Gs us g N t)⟩, some ⟨.ro, scs (2 * 2 ^ (N - (t + 1))) (Hs us h N t)⟩, some ⟨.rw, scs (2 ^ (N - (t + 1))) (Gs us g N (t + 1))⟩, some ⟨.rw, scs (2 ^ (N - (t + 1))) (Hs us h N (t + 1))⟩]) ⟨rfl, rfl⟩) [13, 14] (by simp) ?_ ?_ ?_ ?_
      · refine hfit_cons rfl ?_ (hfit_cons rfl ?_ hfit_nil)
        all_goals first | trivial | exact bfit_same (scs_rens ..) | (simp only [go_sem, Nat.reduceAdd, Nat.reduceSub, Nat.reduceLeDiff, Nat.reduceMul, Nat.reduceLT, Nat.reduceEqDiff, Int.reduceLT, Int.reduceLE, Int.reduceAdd, Int.reduceSub, Int.reduceMul, Int.reduceToNat, reduceIte, reduceCtorEq, Nat.reduceBEq, bfit, lc_fit, scs_fit, fit, ren, gmap, lw_plain, true_or, or_true])
      · simp [uniq, wrB]
      · simp only [rens, ren, gmap, stL, lw_plain, rens_append, lc_rens]
      · rintro v k ⟨rfl, rfl⟩
        rw [puts_ro (by simp [wrB]) rfl (by simp)]
        simp only [List.map_cons, List.map_nil, Option.map_some, renB, scs_rens, rens_append, lc_rens, rens, ren, gmap, stL, List.drop_succ_cons, List.drop_zero, List.cons_append, List.nil_append, List.length_cons, List.length_nil, Nat.reduceAdd]
        refine drun_drive 40 (p := (_, _)) ?_
        simp only [go_sem, Nat.reduceAdd, Nat.reduceSub, Nat.reduceLeDiff, Nat.reduceMul, Nat.reduceLT, Nat.reduceEqDiff, Int.reduceLT, Int.reduceLE, Int.reduceAdd, Int.reduceSub, Int.reduceMul, Int.reduceToNat, reduceIte, reduceCtorEq, Nat.reduceBEq, restore, Option.join_some, maskH, List.mapIdx_cons, List.mapIdx_nil, List.contains_cons, List.contains_nil, Bool.or_false, Bool.or_true, Bool.false_or, Bool.true_or, Nat.reduceBEq]
        refine drun_end ?_
        have hw : IntKind.i64.wrap ((t : Int) + 1) = ((t + 1 : Nat) : Int) := by rw [wrap_i64 (by omega) (by omega)]; omega
        refine run_driveS 80 ?_
        simp only [go_sem, Nat.reduceAdd, Nat.reduceSub, Nat.reduceLeDiff, Nat.reduceMul, Nat.reduceLT, Nat.reduceEqDiff, Int.reduceLT, Int.reduceLE, Int.reduceAdd, Int.reduceSub, Int.reduceMul, Int.reduceToNat, reduceIte, reduceCtorEq, Nat.reduceBEq, v60_8, hw]
        have hx2 : bX N a b = some ⟨.ro, V.sl 5 0 N (.grow 4) :: V.sl 6 0 N (.grow 4) :: (lc a ++ lc b)⟩ := by unfold bX; rw [dv_pos hN0, dv_pos hN0]
        have hx3 : bU N = some ⟨.ro, [V.sl 7 0 N (.grow 4)]⟩ := by unfold bU; rw [dv_pos hN0]
        refine run_rename [0, 1, 2, 3, 4, 5, 6, 7, 8, 9, 10, 11, 12, 20, 21, 18, 19] rfl (by simp) ?_ ?_ ?_ (next (by omega))
        · unfold hd1
          refine hfit_cons rfl ?_ (hfit_cons rfl ?_ (hfit_cons rfl ?_ (hfit_cons rfl ?_ (hfit_cons rfl ?_ (hfit_cons rfl ?_ (hfit_cons rfl ?_ (hfit_cons rfl ?_ (hfit_cons rfl ?_ (hfit_cons rfl ?_ (hfit_cons rfl ?_ (hfit_cons rfl ?_ (hfit_cons rfl ?_ (hfit_cons rfl ?_ (hfit_cons rfl ?_ (hfit_cons rfl ?_ (hfit_cons rfl ?_ hfit_nil))))))))))))))))
          all_goals first | trivial | exact hft _ (fun j hj => gmap_r17 hj) | exact bfit_cast hx2 (hft2 _ (fun j hj => gmap_r17 hj)) | exact bfit_cast hx3 (hft3 _ (fun j hj => gmap_r17 hj)) | exact bfit_cast (rob_pos hN0) bfit_rob | exact hlp _ (fun j hj => gmap_r17 hj) | exact hA _ _ 15 16 | exact hB _ _ | exact hC _ _ | exact hZ _ _ | exact hW _ _ | exact bfit_st2 rfl rfl | exact bfit_same (scs_rens ..) | exact bfit_or g0 (by decide) (bfit_same (scs_rens ..)) | exact bfit_or h0 (by decide) (bfit_same (scs_rens ..)) | (simp only [go_sem, Nat.reduceAdd, Nat.reduceSub, Nat.reduceLeDiff, Nat.reduceMul, Nat.reduceLT, Nat.reduceEqDiff, Int.reduceLT, Int.reduceLE, Int.reduceAdd, Int.reduceSub, Int.reduceMul, Int.reduceToNat, reduceIte, reduceCtorEq, Nat.reduceBEq, bfit, lc_fit, scs_fit, fit, ren, gmap, lw_plain, true_or, or_true])
        · exact uniq_nodup (by decide)
        · unfold tm60
          simp only [go_sem, Nat.reduceAdd, Nat.reduceSub, Nat.reduceLeDiff, Nat.reduceMul, Nat.reduceLT, Nat.reduceEqDiff, Int.reduceLT, Int.reduceLE, Int.reduceAdd, Int.reduceSub, Int.reduceMul, Int.reduceToNat, reduceIte, reduceCtorEq, Nat.reduceBEq, hfit, lc_fit, scs_fit, fit, ren, gmap, lw_plain, true_or, or_true]
  · refine run_driveS 80 ?_
    simp only [go_sem, Nat.reduceAdd, Nat.reduceSub, Nat.reduceLeDiff, Nat.reduceMul, Nat.reduceLT, Nat.reduceEqDiff, Int.reduceLT, Int.reduceLE, Int.reduceAdd, Int.reduceSub, Int.reduceMul, Int.reduceToNat, reduceIte, reduceCtorEq, Nat.reduceBEq]
    refine run_cond_t (by rfl) ?_
    refine run_ret_drop Tryd.func60 res60 [0, 1, 2, 3, 4, 5, 6, 7, 8, 9, 10, 11] (.tup []) _ rfl (by simp) ?_ ?_ ?_ (hQ2 r' A' B' C' hF)
    · refine hfit_cons rfl ?_ (hfit_cons rfl ?_ (hfit_cons rfl ?_ (hfit_cons rfl ?_ (hfit_cons rfl ?_ (hfit_cons rfl ?_ (hfit_cons rfl ?_ (hfit_cons rfl ?_ (hfit_cons rfl ?_ (hfit_cons rfl ?_ (hfit_cons rfl ?_ (hfit_cons rfl ?_ hfit_nil)))))))))))
      all_goals first | trivial | exact hft _ (fun j hj => gmap_r12 hj) | exact hft2 _ (fun j hj => gmap_r12 hj) | exact hft3 _ (fun j hj => gmap_r12 hj) | exact bfit_rob | exact (⟨.inl rfl, htm _ (fun j hj => gmap_r12 hj)⟩) | exact fA _ | exact fB _ | exact fC _ | exact bfit_same (scs_rens ..) | exact bfit_or g0 (by decide) (bfit_same (scs_rens ..)) | exact bfit_or h0 (by decide) (bfit_same (scs_rens ..)) | (simp only [go_sem, Nat.reduceAdd, Nat.reduceSub, Nat.reduceLeDiff, Nat.reduceMul, Nat.reduceLT, Nat.reduceEqDiff, Int.reduceLT, Int.reduceLE, Int.reduceAdd, Int.reduceSub, Int.reduceMul, Int.reduceToNat, reduceIte, reduceCtorEq, Nat.reduceBEq, bfit, lc_fit, scs_fit, fit, ren, gmap, lw_plain, true_or, or_true])
    · exact uniq_nodup (by decide)
    · simp only [go_sem, Nat.reduceAdd, Nat.reduceSub, Nat.reduceLeDiff, Nat.reduceMul, Nat.reduceLT, Nat.reduceEqDiff, Int.reduceLT, Int.reduceLE, Int.reduceAdd, Int.reduceSub, Int.reduceMul, Int.reduceToNat, reduceIte, reduceCtorEq, Nat.reduceBEq, rr60, ren, rens, gmap]
theorem rounds1 (hG : G 0 = tbl) (hN : N ≤ 10) (hus : ∀ j, us j < 115792089237316195423570985008687907853269984665640564039457584007913129639936) (hz : ∀ j, j < N → us j % ell ≠ 0) (hg : ∀ j, g j < 115792089237316195423570985008687907853269984665640564039457584007913129639936) (hh : ∀ j, h j < 115792089237316195423570985008687907853269984665640564039457584007913129639936) (hL : ∀ j, Lf j < 115792089237316195423570985008687907853269984665640564039457584007913129639936) (hR : ∀ j, Rf j < 115792089237316195423570985008687907853269984665640564039457584007913129639936) (hP : P < 115792089237316195423570985008687907853269984665640564039457584007913129639936) (hQ' : Q' < 115792089237316195423570985008687907853269984665640564039457584007913129639936) (htm : ∀ f : Nat → Nat, (∀ j, j < 12 → f j = j) → fit f tm tm)
    (hA : ∀ f t i j, bfit f (A t i j) (A t (f i) (f j))) (hB : ∀ f t, bfit f (B t) (B t)) (hC : ∀ f t, bfit f (C t) (C t)) (hZ : ∀ f t, bfit f (Z t) (Z t)) (hW : ∀ f t, bfit f (W t) (W t)) (hZ0 : Z 0 = none) (hW0 : W 0 = none) (hA0 : ∀ i j, A 0 i j = A 0 0 0)
    (Q : V → Heap → Prop) (Fs : Loop → Option Blk → Option Blk → Option Blk → Prop)
    (hY : ∀ t, t ≤ N → ∀ B0 B1 B2 B3 B4 B5 B6 B7 B12 B13 B14 B17, YCall Tryd.prog G 8 [stL (Ps us Lf Rf P t) Q' (.sl 18 0 (2 ^ (N - t)) (.grow 4)) (.sl 19 0 (2 ^ (N - t)) (.grow 4))]
      [B0, B1, B2, B3, B4, B5, B6, B7, some ⟨.loop r, tm⟩, A t 15 16, B t, C t, B12, B13, B14, Z t, W t, B17, some ⟨.grow, scs (2 ^ (N - t)) (Gs us g N t)⟩, some ⟨.grow, scs (2 ^ (N - t)) (Hs us h N t)⟩]
      fun v h' => (v = .bool true ∧ ∃ X, h' = B0 :: B1 :: B2 :: B3 :: B4 :: B5 :: B6 :: B7 :: some ⟨.loop r, tm⟩ :: A (t + 1) 18 19 :: B (t + 1) :: C (t + 1) :: B12 :: B13 :: B14 :: Z t :: W t :: B17 :: Z (t + 1) :: W (t + 1) :: X) ∨
        (v = .bool false ∧ ∃ r' A' B' C' X, h' = B0 :: B1 :: B2 :: B3 :: B4 :: B5 :: B6 :: B7 :: some ⟨.loop r', tm⟩ :: A' :: B' :: C' :: X ∧ (∀ f, bfit f A' A') ∧ (∀ f, bfit f B' B') ∧ (∀ f, bfit f C' C') ∧ Fs r' A' B' C'))
    (hQ1 : Q (.tup []) [bS N P Q', bX N a b, bU N, some ⟨.ro, scs (2 ^ N) g⟩, some ⟨.ro, scs (2 ^ N) h⟩, rob Lf N, rob Rf N, rob us N, some ⟨.loop r, tm⟩, A (N + 1) 12 13, B (N + 1), C (N + 1), Z (N + 1), W (N + 1)])
    (hQ2 : ∀ r' A' B' C', Fs r' A' B' C' → Q (.tup []) [bS N P Q', bX N a b, bU N, some ⟨.ro, scs (2 ^ N) g⟩, some ⟨.ro, scs (2 ^ N) h⟩, rob Lf N, rob Rf N, rob us N, some ⟨.loop r', tm⟩, A', B', C']) :
    VCall Tryd.prog G 60 [.yld 8, .ptr 0 0, .ptr 1 0, .ptr 2 0] [bS N P Q', bX N a b, bU N, some ⟨.ro, scs (2 ^ N) g⟩, some ⟨.ro, scs (2 ^ N) h⟩, rob Lf N, rob Rf N, rob us N, some ⟨.loop r, tm⟩, A 0 0 0, B 0, C 0] Q := by
  have hp : 2 ^ N ≤ 2 ^ 10 := Nat.pow_le_pow_right (by decide) hN
  have hp0 : 0 < 2 ^ N := Nat.two_pow_pos N
  have hfits := fits_dv (G := G) hG P Q' a b N hN (.grow 4) (.grow 4) us hus hz (fun v k => v = .int .i64 0 ∧ k = [rob us N, none, none, none, none]) ⟨rfl, rfl⟩
  have hft : ∀ f, (∀ j, j < 12 → f j = j) → bfit f (bS N P Q') (bS N P Q') := fun f hf => by
    unfold bS
    exact bfit_same (by simp only [rens_append, lc_rens, rens, ren, hf 3 (by decide), hf 4 (by decide)])
  have hft2 : ∀ f, (∀ j, j < 12 → f j = j) → bfit f (bX N a b) (bX N a b) := fun f hf => by
    unfold bX
    exact bfit_same (by simp only [rens_append, lc_rens, rens, dv_ren, hf 5 (by decide), hf 6 (by decide)])
  have hft3 : ∀ f, (∀ j, j < 12 → f j = j) → bfit f (bU N) (bU N) := fun f hf => by
    unfold bU
    exact bfit_same (by simp only [rens, dv_ren, hf 7 (by decide)])
  have hlp : ∀ f : Nat → Nat, (∀ j, j < 12 → f j = j) → bfit f (some ⟨.loop r, tm⟩) (some ⟨.loop r, tm⟩) := fun f hf => ⟨.inl rfl, htm f hf⟩
  refine vcall_body Tryd.func60 nm60 code60 nt60 ?_
  unfold bS bX bU
  refine run_driveS 80 ?_
  simp only [go_sem, Nat.reduceAdd, Nat.reduceSub, Nat.reduceLeDiff, Nat.reduceMul, Nat.reduceLT, Nat.reduceEqDiff, Int.reduceLT, Int.reduceLE, Int.reduceAdd, Int.reduceSub, Int.reduceMul, Int.reduceToNat, reduceIte, reduceCtorEq, Nat.reduceBEq, v60, v60_0]
  refine run_call' rfl ?_
  simp only [go_sem, Nat.reduceAdd, Nat.reduceSub, Nat.reduceLeDiff, Nat.reduceMul, Nat.reduceLT, Nat.reduceEqDiff, Int.reduceLT, Int.reduceLE, Int.reduceAdd, Int.reduceSub, Int.reduceMul, Int.reduceToNat, reduceIte, reduceCtorEq, Nat.reduceBEq, calV]
  refine vcall_at hfits [7, 3, 4, 5, 6] (by simp) ?_ ?_ ?_ ?_
  · refine hfit_cons rfl ?_ (hfit_cons rfl ?_ (hfit_cons rfl ?_ (hfit_cons rfl ?_ (hfit_cons rfl ?_ hfit_nil))))
    all_goals first | trivial | exact bfit_rob | (simp only [go_sem, Nat.reduceAdd, Nat.reduceSub, Nat.reduceLeDiff, Nat.reduceMul, Nat.reduceLT, Nat.reduceEqDiff, Int.reduceLT, Int.reduceLE, Int.reduceAdd, Int.reduceSub, Int.reduceMul, Int.reduceToNat, reduceIte, reduceCtorEq, Nat.reduceBEq, bfit, lc_fit, scs_fit, fit, ren, gmap, lw_plain, true_or, or_true])
  · simp [uniq, wrB]
  · simp only [rens, ren, gmap, stL_ren, arL_ren, dv_ren, stL, arL, rens_append, lc_rens]
  · rintro v k ⟨rfl, rfl⟩
    rw [puts_keep (by intro x hx; simp only [List.mem_cons, List.mem_nil_iff, or_false] at hx; rcases hx with e | e | e | e | e <;> subst e <;> first | rfl | exact wrB_rob ..) rfl]
    refine run_driveS 80 ?_
    simp only [go_sem, Nat.reduceAdd, Nat.reduceSub, Nat.reduceLeDiff, Nat.reduceMul, Nat.reduceLT, Nat.reduceEqDiff, Int.reduceLT, Int.reduceLE, Int.reduceAdd, Int.reduceSub, Int.reduceMul, Int.reduceToNat, reduceIte, reduceCtorEq, Nat.reduceBEq, eq_int, decide_true]
    refine run_cond_f (by rfl) ?_
    refine run_driveS 80 ?_
    simp only [go_sem, Nat.reduceAdd, Nat.reduceSub, Nat.reduceLeDiff, Nat.reduceMul, Nat.reduceLT, Nat.reduceEqDiff, Int.reduceLT, Int.reduceLE, Int.reduceAdd, Int.reduceSub, Int.reduceMul, Int.reduceToNat, reduceIte, reduceCtorEq, Nat.reduceBEq, v60_1, v60_2, v60_10]
    have loop : ∀ j t, t + j = N → ∀ c d, CapOk c (2 ^ (N - t)) → CapOk d (2 ^ (N - t)) → RunM Tryd.prog G 60 12 {} Q ([TI.l v60_9, TI.b 0], ⟨tm60 t, hd1 us g h Lf Rf N P Q' a b r tm A B C Z W t c d⟩) := by
      intro j
      induction j with
      | zero => exact fun t ht c d hc hd => step1 us g h Lf Rf N P Q' a b r tm A B C Z W hG hN hus hz hg hh hL hR hP hQ' htm hA hB hC hZ hW hZ0 hW0 hA0 Q Fs hY hQ1 hQ2 t c d (by omega) hc hd (.inr rfl) (.inr rfl) (fun h => absurd h (by omega))
      | succ j ih => exact fun t ht c d hc hd => step1 us g h Lf Rf N P Q' a b r tm A B C Z W hG hN hus hz hg hh hL hR hP hQ' htm hA hB hC hZ hW hZ0 hW0 hA0 Q Fs hY hQ1 hQ2 t c d (by omega) hc hd (.inr rfl) (.inr rfl) (fun h => ih (t + 1) (by omega) _ _ (.inr ⟨_, rfl, Nat.le_refl _⟩) (.inr ⟨_, rfl, Nat.le_refl _⟩))
    refine run_rename [0, 1, 2, 3, 4, 5, 6, 7, 8, 9, 10, 11, 12, 13, 14, 15, 16] rfl (by simp) ?_ ?_ ?_ (step0 us g h Lf Rf N P Q' a b r tm A B C Z W hG hN hus hz hg hh hL hR hP hQ' htm hA hB hC hZ hW hZ0 hW0 hA0 Q Fs hY hQ1 hQ2 0 (.grow 4) (.grow 4) (Nat.zero_le _) (.inl rfl) (.inl rfl) (.inl rfl) (.inl rfl) (fun h => loop (N - 1) 1 (by omega) _ _ (.inr ⟨_, rfl, Nat.le_refl _⟩) (.inr ⟨_, rfl, Nat.le_refl _⟩)))
    · unfold hd0
      refine hfit_cons rfl (hft _ (fun j hj => gmap_r17' hj)) (hfit_cons rfl (hft2 _ (fun j hj => gmap_r17' hj)) (hfit_cons rfl (hft3 _ (fun j hj => gmap_r17' hj)) (hfit_cons rfl (bfit_same (scs_rens ..)) (hfit_cons rfl (bfit_same (scs_rens ..)) (hfit_cons rfl bfit_rob (hfit_cons rfl bfit_rob (hfit_cons rfl bfit_rob (hfit_cons rfl (hlp _ (fun j hj => gmap_r17' hj)) (hfit_cons rfl ?_ (hfit_cons rfl (hB _ _) (hfit_cons rfl (hC _ _) (hfit_cons rfl (bfit_st2 rfl rfl) ?_))))))))))))
      · have := hA (gmap [0, 1, 2, 3, 4, 5, 6, 7, 8, 9, 10, 11, 12, 13, 14, 15, 16] 13) 0 15 16
        rw [hA0 (gmap _ _ 15)] at this
        exact this
      · rw [hZ0, hW0]
        exact hfit_cons_none (hfit_cons_none (hfit_cons_none (hfit_cons_none hfit_nil)))
    · exact uniq_nodup (by decide)
    · unfold tm60
      simp only [go_sem, Nat.reduceAdd, Nat.reduceSub, Nat.reduceLeDiff, Nat.reduceMul, Nat.reduceLT, Nat.reduceEqDiff, Int.reduceLT, Int.reduceLE, Int.reduceAdd, Int.reduceSub, Int.reduceMul, Int.reduceToNat, reduceIte, reduceCtorEq, Nat.reduceBEq, hfit, lc_fit, scs_fit, fit, ren, gmap, lw_plain, true_or, or_true]
end
end
section
attribute [local go_sem ↓] lc_len lc_take lc_drop lc_known lc_one lc_rens lc_cells lw_known lw_agg lw_asG scs_known scs_one scs_len lc_take_add lc_drop_add lenO_dv dv_known dv_one dv_ren
attribute [local go_sem] lt_nat lt_natl lt_lnat lt_ll bool_tf bool_ft
set_option maxRecDepth 100000
set_option maxHeartbeats 2000000
theorem dv_zero (b : Nat) : dv b 0 = .nils := rfl
theorem db_zero (g : Nat → Nat) : db g 0 = none := rfl
theorem scs_tk0 (f : Nat → Nat) : scs 0 f = [] := rfl
theorem bfit_g {f : Nat → Nat} {k : Kind} {c : List V} (h : rens f c = c) : bfit f (some ⟨k, c⟩) (some ⟨k, c⟩) := ⟨.inl rfl, fit_same h⟩
theorem bfit_x {f : Nat → Nat} {x y x' y' : V} {a b : Nat} (hx : ren f x = x') (hy : ren f y = y') : bfit f (some ⟨.rw, x :: y :: (lc a ++ lc b)⟩) (some ⟨.rw, x' :: y' :: (lc a ++ lc b)⟩) := by
  refine ⟨.inl rfl, ?_⟩
  have h := fit_rens f (x :: y :: (lc a ++ lc b))
  simpa only [rens_append, lc_rens, rens, hx, hy] using h
theorem bfit_u {f : Nat → Nat} {x x' : V} (hx : ren f x = x') : bfit f (some ⟨.rw, [x]⟩) (some ⟨.rw, [x']⟩) := by
  refine ⟨.inl rfl, ?_⟩
  have h := fit_rens f [x]
  simpa only [rens, hx] using h
theorem rounds_fn (P Q' a b N : Nat) (hN : N ≤ 10) (c1 c2 cL cR : Cap) (g h Lf Rf us : Nat → Nat) (vL vR : V) (BL BR : Option Blk) (hv : (vL = .sl 2 0 N cL ∧ vR = .sl 3 0 N cR ∧ BL = some ⟨.ro, scs N Lf⟩ ∧ BR = some ⟨.ro, scs N Rf⟩) ∨ (N = 0 ∧ vL = .nils ∧ vR = .nils ∧ BL = none ∧ BR = none)) (Q : V → Heap → Prop)
    (hQ : Q (.fn (.func 60) [] [.ptr 5 0, .ptr 6 0, .ptr 7 0]) [some ⟨.ro, scs (2 ^ N) g⟩, some ⟨.ro, scs (2 ^ N) h⟩, BL, BR, rob us N, some ⟨.rw, lc P ++ (lc Q' ++ [.sl 8 0 (2 ^ N) (.grow 4), .sl 9 0 (2 ^ N) (.grow 4)])⟩, some ⟨.rw, dv 10 N :: dv 11 N :: (lc a ++ lc b)⟩, some ⟨.rw, [dv 12 N]⟩, some ⟨.grow, scs (2 ^ N) g⟩, some ⟨.grow, scs (2 ^ N) h⟩, db Lf N, db Rf N, db us N]) :
    VCall Tryd.prog G 20 [stL P Q' (.sl 0 0 (2 ^ N) c1) (.sl 1 0 (2 ^ N) c2), arL vL vR a b, dv 4 N] [some ⟨.ro, scs (2 ^ N) g⟩, some ⟨.ro, scs (2 ^ N) h⟩, BL, BR, rob us N] Q := by
  have hp : 2 ^ N ≤ 2 ^ 10 := Nat.pow_le_pow_right (by decide) hN
  have hp0 : 0 < 2 ^ N := Nat.two_pow_pos N
  have e0 : (2 ^ N = 0) = False := eq_false (by omega)
  have e1 : (2 ^ N * 32 ≤ 281474976710656) = True := eq_true (by omega)
  have e2 : (2 ^ N ≤ 9223372036854775807) = True := eq_true (by omega)
  have f1 : (N * 32 ≤ 281474976710656) = True := eq_true (by omega)
  have f2 : (N ≤ 9223372036854775807) = True := eq_true (by omega)
  refine vcall_body Tryd.func20 nm20 code20 nt20 ?_
  unfold stL arL
  by_cases hN0 : N = 0
  · subst hN0
    simp only [dv_zero, db_zero, rob_zero] at hQ ⊢
    rcases hv with ⟨rfl, rfl, rfl, rfl⟩ | ⟨_, rfl, rfl, rfl, rfl⟩
    · refine run_driveS 80 ?_
      simp only [go_sem, Nat.reduceAdd, Nat.reduceSub, Nat.reduceLeDiff, Nat.reduceMul, Nat.reduceLT, Nat.reduceEqDiff, Int.reduceLT, Int.reduceLE, Int.reduceAdd, Int.reduceSub, Int.reduceMul, Int.reduceToNat, reduceIte, reduceCtorEq, Nat.reduceBEq, v20, v20_0]
      refine run_drw (by kernel_rfl) ?_
      refine drun_drive 40 (p := (_, _)) ?_
      simp only [go_sem, Nat.reduceAdd, Nat.reduceSub, Nat.reduceLeDiff, Nat.reduceMul, Nat.reduceLT, Nat.reduceEqDiff, Int.reduceLT, Int.reduceLE, Int.reduceAdd, Int.reduceSub, Int.reduceMul, Int.reduceToNat, reduceIte, reduceCtorEq, Nat.reduceBEq, v20_1, e0, e1, e2, scs_tk, look_ro, restore, Option.join_some, maskH, List.mapIdx_cons, List.mapIdx_nil, List.contains_cons, List.contains_nil, Bool.or_false, Bool.or_true, Bool.false_or, Bool.true_or, Nat.reduceBEq]
      refine drun_end ?_
      refine run_driveS 80 ?_
      simp only [go_sem, Nat.reduceAdd, Nat.reduceSub, Nat.reduceLeDiff, Nat.reduceMul, Nat.reduceLT, Nat.reduceEqDiff, Int.reduceLT, Int.reduceLE, Int.reduceAdd, Int.reduceSub, Int.reduceMul, Int.reduceToNat, reduceIte, reduceCtorEq, Nat.reduceBEq]
      refine run_drw (by kernel_rfl) ?_
      refine drun_drive 40 (p := (_, _)) ?_
      simp only [go_sem, Nat.reduceAdd, Nat.reduceSub, Nat.reduceLeDiff, Nat.reduceMul, Nat.reduceLT, Nat.reduceEqDiff, Int.reduceLT, Int.reduceLE, Int.reduceAdd, Int.reduceSub, Int.reduceMul, Int.reduceToNat, reduceIte, reduceCtorEq, Nat.reduceBEq, v20_2, f1, f2, if_true, scs_tk0, dv_zero, List.take_zero, List.length_nil, Nat.zero_mul, List.all_nil, scs_tk, look_ro, restore, Option.join_some, maskH, List.mapIdx_cons, List.mapIdx_nil, List.contains_cons, List.contains_nil, Bool.or_false, Bool.or_true, Bool.false_or, Bool.true_or, Nat.reduceBEq]
      refine drun_end ?_
      refine run_driveS 80 ?_
      simp only [go_sem, Nat.reduceAdd, Nat.reduceSub, Nat.reduceLeDiff, Nat.reduceMul, Nat.reduceLT, Nat.reduceEqDiff, Int.reduceLT, Int.reduceLE, Int.reduceAdd, Int.reduceSub, Int.reduceMul, Int.reduceToNat, reduceIte, reduceCtorEq, Nat.reduceBEq, v20_3, v20_4, f1, f2, if_true, scs_tk0, dv_zero, List.take_zero, List.length_nil, Nat.zero_mul, List.all_nil, scs_tk, look_ro]
      rw [st_t9, st_d10, st_ap]
      refine run_ret_drop Tryd.func20 res20 [0, 1, 2, 3, 4, 5, 6, 7, 8, 9, 10, 11, 12] (.fn (.func 60) [] [.ptr 5 0, .ptr 6 0, .ptr 7 0]) _ rfl (by simp) ?_ ?_ ?_ hQ
      · refine hfit_cons rfl ?_ (hfit_cons rfl ?_ (hfit_cons rfl ?_ (hfit_cons rfl ?_ (hfit_cons rfl ?_ (hfit_cons rfl ?_ (hfit_cons rfl ?_ (hfit_cons rfl ?_ (hfit_cons rfl ?_ (hfit_cons rfl ?_ (hfit_cons_none (hfit_cons_none (hfit_cons_none hfit_nil))))))))))))
        all_goals first | trivial | exact bfit_same (scs_rens ..) | exact bfit_st2 rfl rfl | exact bfit_x rfl rfl | exact bfit_u rfl | exact bfit_g (scs_rens ..)
      · exact uniq_nodup (by decide)
      · simp only [go_sem, Nat.reduceAdd, Nat.reduceSub, Nat.reduceLeDiff, Nat.reduceMul, Nat.reduceLT, Nat.reduceEqDiff, Int.reduceLT, Int.reduceLE, Int.reduceAdd, Int.reduceSub, Int.reduceMul, Int.reduceToNat, reduceIte, reduceCtorEq, Nat.reduceBEq, rr20, ren, rens, gmap]
    · refine run_driveS 80 ?_
      simp only [go_sem, Nat.reduceAdd, Nat.reduceSub, Nat.reduceLeDiff, Nat.reduceMul, Nat.reduceLT, Nat.reduceEqDiff, Int.reduceLT, Int.reduceLE, Int.reduceAdd, Int.reduceSub, Int.reduceMul, Int.reduceToNat, reduceIte, reduceCtorEq, Nat.reduceBEq, v20, v20_0]
      refine run_drw (by kernel_rfl) ?_
      refine drun_drive 40 (p := (_, _)) ?_
      simp only [go_sem, Nat.reduceAdd, Nat.reduceSub, Nat.reduceLeDiff, Nat.reduceMul, Nat.reduceLT, Nat.reduceEqDiff, Int.reduceLT, Int.reduceLE, Int.reduceAdd, Int.reduceSub, Int.reduceMul, Int.reduceToNat, reduceIte, reduceCtorEq, Nat.reduceBEq, v20_1, e0, e1, e2, scs_tk, look_ro, restore, Option.join_some, maskH, List.mapIdx_cons, List.mapIdx_nil, List.contains_cons, List.contains_nil, Bool.or_false, Bool.or_true, Bool.false_or, Bool.true_or, Nat.reduceBEq]
      refine drun_end ?_
      refine run_driveS 80 ?_
      simp only [go_sem, Nat.reduceAdd, Nat.reduceSub, Nat.reduceLeDiff, Nat.reduceMul, Nat.reduceLT, Nat.reduceEqDiff, Int.reduceLT, Int.reduceLE, Int.reduceAdd, Int.reduceSub, Int.reduceMul, Int.reduceToNat, reduceIte, reduceCtorEq, Nat.reduceBEq]
      refine run_drw (by kernel_rfl) ?_
      refine drun_drive 40 (p := (_, _)) ?_
      simp only [go_sem, Nat.reduceAdd, Nat.reduceSub, Nat.reduceLeDiff, Nat.reduceMul, Nat.reduceLT, Nat.reduceEqDiff, Int.reduceLT, Int.reduceLE, Int.reduceAdd, Int.reduceSub, Int.reduceMul, Int.reduceToNat, reduceIte, reduceCtorEq, Nat.reduceBEq, v20_2, f1, f2, if_true, scs_tk0, dv_zero, List.take_zero, List.length_nil, Nat.zero_mul, List.all_nil, scs_tk, look_ro, restore, Option.join_some, maskH, List.mapIdx_cons, List.mapIdx_nil, List.contains_cons, List.contains_nil, Bool.or_false, Bool.or_true, Bool.false_or, Bool.true_or, Nat.reduceBEq]
      refine drun_end ?_
      refine run_driveS 80 ?_
      simp only [go_sem, Nat.reduceAdd, Nat.reduceSub, Nat.reduceLeDiff, Nat.reduceMul, Nat.reduceLT, Nat.reduceEqDiff, Int.reduceLT, Int.reduceLE, Int.reduceAdd, Int.reduceSub, Int.reduceMul, Int.reduceToNat, reduceIte, reduceCtorEq, Nat.reduceBEq, v20_3, v20_4, f1, f2, if_true, scs_tk0, dv_zero, List.take_zero, List.length_nil, Nat.zero_mul, List.all_nil, scs_tk, look_ro]
      rw [st_t9, st_d10, st_ap]
      refine run_ret_drop Tryd.func20 res20 [0, 1, 2, 3, 4, 5, 6, 7, 8, 9, 10, 11, 12] (.fn (.func 60) [] [.ptr 5 0, .ptr 6 0, .ptr 7 0]) _ rfl (by simp) ?_ ?_ ?_ hQ
      · refine hfit_cons rfl ?_ (hfit_cons rfl ?_ (hfit_cons rfl ?_ (hfit_cons rfl ?_ (hfit_cons rfl ?_ (hfit_cons rfl ?_ (hfit_cons rfl ?_ (hfit_cons rfl ?_ (hfit_cons rfl ?_ (hfit_cons rfl ?_ (hfit_cons_none (hfit_cons_none (hfit_cons_none hfit_nil))))))))))))
        all_goals first | trivial | exact bfit_same (scs_rens ..) | exact bfit_st2 rfl rfl | exact bfit_x rfl rfl | exact bfit_u rfl | exact bfit_g (scs_rens ..)
      · exact uniq_nodup (by decide)
      · simp only [go_sem, Nat.reduceAdd, Nat.reduceSub, Nat.reduceLeDiff, Nat.reduceMul, Nat.reduceLT, Nat.reduceEqDiff, Int.reduceLT, Int.reduceLE, Int.reduceAdd, Int.reduceSub, Int.reduceMul, Int.reduceToNat, reduceIte, reduceCtorEq, Nat.reduceBEq, rr20, ren, rens, gmap]
  · obtain ⟨rfl, rfl, rfl, rfl⟩ := hv.resolve_right (fun e => hN0 e.1)
    have f0 : (N = 0) = False := eq_false hN0
    have hp1 : 0 < N := by omega
    rw [rob_pos hp1, db_pos hp1, db_pos hp1, db_pos hp1, dv_pos hp1, dv_pos hp1, dv_pos hp1] at hQ
    rw [rob_pos hp1, dv_pos hp1]
    refine run_driveS 80 ?_
    simp only [go_sem, Nat.reduceAdd, Nat.reduceSub, Nat.reduceLeDiff, Nat.reduceMul, Nat.reduceLT, Nat.reduceEqDiff, Int.reduceLT, Int.reduceLE, Int.reduceAdd, Int.reduceSub, Int.reduceMul, Int.reduceToNat, reduceIte, reduceCtorEq, Nat.reduceBEq, v20, v20_0]
    refine run_drw (by kernel_rfl) ?_
    refine drun_drive 40 (p := (_, _)) ?_
    simp only [go_sem, Nat.reduceAdd, Nat.reduceSub, Nat.reduceLeDiff, Nat.reduceMul, Nat.reduceLT, Nat.reduceEqDiff, Int.reduceLT, Int.reduceLE, Int.reduceAdd, Int.reduceSub, Int.reduceMul, Int.reduceToNat, reduceIte, reduceCtorEq, Nat.reduceBEq, v20_1, e0, e1, e2, scs_tk, look_ro, restore, Option.join_some, maskH, List.mapIdx_cons, List.mapIdx_nil, List.contains_cons, List.contains_nil, Bool.or_false, Bool.or_true, Bool.false_or, Bool.true_or, Nat.reduceBEq]
    refine drun_end ?_
    refine run_driveS 80 ?_
    simp only [go_sem, Nat.reduceAdd, Nat.reduceSub, Nat.reduceLeDiff, Nat.reduceMul, Nat.reduceLT, Nat.reduceEqDiff, Int.reduceLT, Int.reduceLE, Int.reduceAdd, Int.reduceSub, Int.reduceMul, Int.reduceToNat, reduceIte, reduceCtorEq, Nat.reduceBEq]
    refine run_drw (by kernel_rfl) ?_
    refine drun_drive 40 (p := (_, _)) ?_
    simp only [go_sem, Nat.reduceAdd, Nat.reduceSub, Nat.reduceLeDiff, Nat.reduceMul, Nat.reduceLT, Nat.reduceEqDiff, Int.reduceLT, Int.reduceLE, Int.reduceAdd, Int.reduceSub, Int.reduceMul, Int.reduceToNat, reduceIte, reduceCtorEq, Nat.reduceBEq, v20_2, f0, f1, f2, scs_tk, look_ro, restore, Option.join_some, maskH, List.mapIdx_cons, List.mapIdx_nil, List.contains_cons, List.contains_nil, Bool.or_false, Bool.or_true, Bool.false_or, Bool.true_or, Nat.reduceBEq]
    refine drun_end ?_
    refine run_driveS 80 ?_
    simp only [go_sem, Nat.reduceAdd, Nat.reduceSub, Nat.reduceLeDiff, Nat.reduceMul, Nat.reduceLT, Nat.reduceEqDiff, Int.reduceLT, Int.reduceLE, Int.reduceAdd, Int.reduceSub, Int.reduceMul, Int.reduceToNat, reduceIte, reduceCtorEq, Nat.reduceBEq, v20_3, v20_4, f0, f1, f2, scs_tk, look_ro]
    rw [st_t9, st_d10, st_ap]
    refine run_ret_drop Tryd.func20 res20 [0, 1, 2, 3, 4, 5, 6, 7, 8, 9, 10, 11, 12] (.fn (.func 60) [] [.ptr 5 0, .ptr 6 0, .ptr 7 0]) _ rfl (by simp) ?_ ?_ ?_ hQ
    · refine hfit_cons rfl ?_ (hfit_cons rfl ?_ (hfit_cons rfl ?_ (hfit_cons rfl ?_ (hfit_cons rfl ?_ (hfit_cons rfl ?_ (hfit_cons rfl ?_ (hfit_cons rfl ?_ (hfit_cons rfl ?_ (hfit_cons rfl ?_ (hfit_cons rfl ?_ (hfit_cons rfl ?_ (hfit_cons rfl ?_ hfit_nil))))))))))))
      all_goals first | trivial | exact bfit_same (scs_rens ..) | exact bfit_st2 rfl rfl | exact bfit_x rfl rfl | exact bfit_u rfl | exact bfit_g (scs_rens ..) | (simp only [go_sem, Nat.reduceAdd, Nat.reduceSub, Nat.reduceLeDiff, Nat.reduceMul, Nat.reduceLT, Nat.reduceEqDiff, Int.reduceLT, Int.reduceLE, Int.reduceAdd, Int.reduceSub, Int.reduceMul, Int.reduceToNat, reduceIte, reduceCtorEq, Nat.reduceBEq, bfit, lc_fit, scs_fit, fit, ren, gmap, lw_plain, true_or, or_true])
    · exact uniq_nodup (by decide)
    · simp only [go_sem, Nat.reduceAdd, Nat.reduceSub, Nat.reduceLeDiff, Nat.reduceMul, Nat.reduceLT, Nat.reduceEqDiff, Int.reduceLT, Int.reduceLE, Int.reduceAdd, Int.reduceSub, Int.reduceMul, Int.reduceToNat, reduceIte, reduceCtorEq, Nat.reduceBEq, rr20, ren, rens, gmap]
end
section
attribute [local go_sem ↓] lc_len lc_take lc_drop lc_known lc_one lc_rens lc_cells lw_known lw_agg lw_asG scs_known scs_one scs_len
attribute [local go_sem] lt_nat lt_natl lt_lnat lt_ll
set_option maxRecDepth 100000
set_option maxHeartbeats 1000000
def fl (f : Nat → Nat) (N : Nat) : Nat → Nat := fun j => if j < N then f j else (3 * j + 2) % 18446744073709551616
theorem fl_lt {f : Nat → Nat} (hf : ∀ j, f j < 115792089237316195423570985008687907853269984665640564039457584007913129639936) (N : Nat) (j : Nat) : fl f N j < 115792089237316195423570985008687907853269984665640564039457584007913129639936 := by
  unfold fl
  split
  · exact hf j
  · exact Nat.lt_trans (Nat.mod_lt _ (by decide)) (by decide)
theorem dv_zero' (b : Nat) : dv b 0 = .nils := rfl
theorem scs_s1 (f : Nat → Nat) {v : Nat} (h : f 0 = v) : scs 1 f = lc v := by subst h; rfl
theorem fill_ (f : Nat → Nat) (hf : ∀ j, f j < 115792089237316195423570985008687907853269984665640564039457584007913129639936) (N n : Nat) (hn0 : 0 < n) (hn : n ≤ 100) (hN : N < 9223372036854775808) (uv : V) (b0 : Option Blk) (hi : In f N uv b0) (Q : V → Heap → Prop) (hQ : Q (.sl 1 0 n (.grow 4)) [b0, some ⟨.grow, scs n (fl f N)⟩]) : VCall Tryd.prog G 25 [uv, .int .i64 n] [b0] Q := by
  have hb0 : ∀ g, bfit g b0 b0 := fun g => by cases hi with
    | nil => trivial
    | sl m h => exact bfit_same (scs_rens ..)
  have hwb : wrB b0 = false := by cases hi <;> rfl
  have hlen : lenO uv = some N := by cases hi <;> rfl
  have hkn : uv.known = true := by cases hi <;> rfl
  have hone : uv.one = true := by cases hi <;> rfl
  have hru : ∀ g : Nat → Nat, g 0 = 0 → ren g uv = uv := fun g hg => by cases hi <;> simp [ren, hg]
  have hrs : ∀ (μ : List Nat) L, ren (gmap (0 :: μ) L) uv = uv := fun μ L => hru _ rfl
  refine vcall_body Tryd.func25 nm25 code25 nt25 ?_
  refine run_driveS 80 ?_
  simp only [go_sem, Nat.reduceAdd, Nat.reduceSub, Nat.reduceLeDiff, Nat.reduceMul, Nat.reduceLT, Nat.reduceEqDiff, Int.reduceLT, Int.reduceLE, Int.reduceAdd, Int.reduceSub, Int.reduceMul, Int.reduceToNat, reduceIte, reduceCtorEq, Nat.reduceBEq, v25, v25_0, v25_1, v25_2, v25_10, hkn]
  refine run_rename [0, 1] (st' := ⟨[uv, .int .i64 n, .unk, .unk, .nils, dv 1 0, .int .i64 (0 : Nat)] ++ List.replicate 25 .unk, [b0, db (fl f N) 0]⟩) rfl (by simp) ?_ ?_ ?_ (run_for (fun i => ⟨[uv, .int .i64 n, .unk, .unk, .nils, dv 1 i, .int .i64 (i : Nat)] ++ List.replicate 25 .unk, [b0, db (fl f N) i]⟩) n (fun i hin ih => ?_) ?_)
  · exact hfit_cons rfl (hb0 _) (hfit_cons_none hfit_nil)
  · simp [uniq, hwb, wrB, db]
  · rw [dv_zero']
    simp only [go_sem, Nat.reduceAdd, Nat.reduceSub, Nat.reduceLeDiff, Nat.reduceMul, Nat.reduceLT, Nat.reduceEqDiff, Int.reduceLT, Int.reduceLE, Int.reduceAdd, Int.reduceSub, Int.reduceMul, Int.reduceToNat, reduceIte, reduceCtorEq, Nat.reduceBEq, hfit, lc_fit, scs_fit, fit, ren, gmap, lw_plain, true_or, or_true, hrs]
  · have h0 : ((i : Int) < (n : Int)) = True := eq_true (by omega)
    have hw : IntKind.i64.wrap ((i : Int) + 1) = ((i + 1 : Nat) : Int) := by rw [wrap_i64 (by omega) (by omega)]; omega
    have h3 : IntKind.i64.wrap (3 * (i : Int)) = ((3 * i : Nat) : Int) := by rw [wrap_i64 (by omega) (by omega)]; omega
    have h4 : IntKind.i64.wrap (((3 * i : Nat) : Int) + 2) = ((3 * i + 2 : Nat) : Int) := by rw [wrap_i64 (by omega) (by omega)]; omega
    have h5 : IntKind.u64.wrap ((3 * i + 2 : Nat) : Int) = ((3 * i + 2 : Nat) : Int) := by rw [wrap_u64]; omega
    by_cases hlt : i < N
    · obtain ⟨m, rfl, rfl⟩ : ∃ m, uv = .sl 0 0 N (.exact m) ∧ b0 = some ⟨.ro, scs N f⟩ := by
        cases hi with
        | nil => omega
        | sl m h => exact ⟨_, rfl, rfl⟩
      have h1 : ((i : Int) < (N : Int)) = True := eq_true (by omega)
      have hg := scs_get' N f (i := i) hlt
      have hv : fl f N i = f i := if_pos hlt
      by_cases hz : i = 0
      · subst hz
        have h0' : ((0 : Int) < (n : Int)) = True := eq_true (by omega)
        have h1' : ((0 : Int) < (N : Int)) = True := eq_true (by omega)
        rw [Nat.zero_mul, List.drop_zero] at hg
        rw [dv_zero', show db (fl f N) 0 = none from rfl]
        have hb := scs_s1 (fl f N) hv
        refine run_loop_eq v25_9.eq_1 ?_
        refine run_driveS 80 ?_
        simp only [go_sem, Nat.reduceAdd, Nat.reduceSub, Nat.reduceLeDiff, Nat.reduceMul, Nat.reduceLT, Nat.reduceEqDiff, Int.reduceLT, Int.reduceLE, Int.reduceAdd, Int.reduceSub, Int.reduceMul, Int.reduceToNat, reduceIte, reduceCtorEq, Nat.reduceBEq, v25_7, v25_3, v25_4, h0', h1', lenO_sl]
        refine run_cond_t (by rfl) ?_
        refine run_driveS 80 ?_
        simp only [go_sem, Nat.reduceAdd, Nat.reduceSub, Nat.reduceLeDiff, Nat.reduceMul, Nat.reduceLT, Nat.reduceEqDiff, Int.reduceLT, Int.reduceLE, Int.reduceAdd, Int.reduceSub, Int.reduceMul, Int.reduceToNat, reduceIte, reduceCtorEq, Nat.reduceBEq, v25_5, v25_8, hg, h0', h1']
        refine run_rename [0, 3] rfl (by simp) ?_ ?_ ?_ ih
        · rw [db_pos (by omega)]
          refine hfit_cons rfl (hb0 _) (hfit_cons rfl ?_ hfit_nil)
          rw [hb]; exact bfit_g (lc_rens ..)
        · simp [uniq, hwb, wrB, db]
        · rw [dv_pos (by omega)]
          simp only [go_sem, Nat.reduceAdd, Nat.reduceSub, Nat.reduceLeDiff, Nat.reduceMul, Nat.reduceLT, Nat.reduceEqDiff, Int.reduceLT, Int.reduceLE, Int.reduceAdd, Int.reduceSub, Int.reduceMul, Int.reduceToNat, reduceIte, reduceCtorEq, Nat.reduceBEq, hfit, lc_fit, scs_fit, fit, ren, gmap, lw_plain, true_or, or_true, hrs]
      · have hp : 0 < i := by omega
        rw [dv_pos hp, db_pos hp]
        have a1 : ((i + 1) * 32 ≤ 140737488355328) = True := eq_true (by omega)
        have a2 : (i + 1 ≤ 9223372036854775807) = True := eq_true (by omega)
        have a3 := scs_snoc i (fl f N) hv
        refine run_loop_eq v25_9.eq_1 ?_
        refine run_driveS 80 ?_
        simp only [go_sem, Nat.reduceAdd, Nat.reduceSub, Nat.reduceLeDiff, Nat.reduceMul, Nat.reduceLT, Nat.reduceEqDiff, Int.reduceLT, Int.reduceLE, Int.reduceAdd, Int.reduceSub, Int.reduceMul, Int.reduceToNat, reduceIte, reduceCtorEq, Nat.reduceBEq, v25_7, v25_3, v25_4, h0, h1, lenO_sl]
        refine run_cond_t (by rfl) ?_
        refine run_driveS 80 ?_
        simp only [go_sem, Nat.reduceAdd, Nat.reduceSub, Nat.reduceLeDiff, Nat.reduceMul, Nat.reduceLT, Nat.reduceEqDiff, Int.reduceLT, Int.reduceLE, Int.reduceAdd, Int.reduceSub, Int.reduceMul, Int.reduceToNat, reduceIte, reduceCtorEq, Nat.reduceBEq, v25_5, v25_8, hg, h0, h1, a1, a2, a3, hw]
        refine run_rename [0, 3] rfl (by simp) ?_ ?_ ?_ ih
        · rw [db_pos (by omega)]
          refine hfit_cons rfl (hb0 _) (hfit_cons rfl ?_ hfit_nil)
          exact bfit_g (scs_rens ..)
        · simp [uniq, hwb, wrB, db]
        · rw [dv_pos (by omega)]
          simp only [go_sem, Nat.reduceAdd, Nat.reduceSub, Nat.reduceLeDiff, Nat.reduceMul, Nat.reduceLT, Nat.reduceEqDiff, Int.reduceLT, Int.reduceLE, Int.reduceAdd, Int.reduceSub, Int.reduceMul, Int.reduceToNat, reduceIte, reduceCtorEq, Nat.reduceBEq, hfit, lc_fit, scs_fit, fit, ren, gmap, lw_plain, true_or, or_true, hrs]
    · have h1 : ((i : Int) < (N : Int)) = False := eq_false (by omega)
      have hv : fl f N i = 3 * i + 2 := (if_neg hlt).trans (Nat.mod_eq_of_lt (by omega))
      by_cases hz : i = 0
      · subst hz
        have h0' : ((0 : Int) < (n : Int)) = True := eq_true (by omega)
        have h1' : ((0 : Int) < (N : Int)) = False := eq_false (by omega)
        rw [dv_zero', show db (fl f N) 0 = none from rfl]
        have hb := scs_s1 (fl f N) hv
        refine run_loop_eq v25_9.eq_1 ?_
        refine run_driveS 80 ?_
        simp only [go_sem, Nat.reduceAdd, Nat.reduceSub, Nat.reduceLeDiff, Nat.reduceMul, Nat.reduceLT, Nat.reduceEqDiff, Int.reduceLT, Int.reduceLE, Int.reduceAdd, Int.reduceSub, Int.reduceMul, Int.reduceToNat, reduceIte, reduceCtorEq, Nat.reduceBEq, v25_7, v25_3, v25_4, h0', h1', hkn, hlen, hone]
        refine run_cond_f (by rfl) ?_
        refine run_driveS 80 ?_
        simp only [go_sem, Nat.reduceAdd, Nat.reduceSub, Nat.reduceLeDiff, Nat.reduceMul, Nat.reduceLT, Nat.reduceEqDiff, Int.reduceLT, Int.reduceLE, Int.reduceAdd, Int.reduceSub, Int.reduceMul, Int.reduceToNat, reduceIte, reduceCtorEq, Nat.reduceBEq, v25_6]
        refine run_call' rfl ?_
        simp only [go_sem, Nat.reduceAdd, Nat.reduceSub, Nat.reduceLeDiff, Nat.reduceMul, Nat.reduceLT, Nat.reduceEqDiff, Int.reduceLT, Int.reduceLE, Int.reduceAdd, Int.reduceSub, Int.reduceMul, Int.reduceToNat, reduceIte, reduceCtorEq, Nat.reduceBEq, calV]
        refine int' 2 (by decide) ?_
        refine run_driveS 80 ?_
        simp only [go_sem, Nat.reduceAdd, Nat.reduceSub, Nat.reduceLeDiff, Nat.reduceMul, Nat.reduceLT, Nat.reduceEqDiff, Int.reduceLT, Int.reduceLE, Int.reduceAdd, Int.reduceSub, Int.reduceMul, Int.reduceToNat, reduceIte, reduceCtorEq, Nat.reduceBEq, v25_8]
        refine run_rename [0, 3] rfl (by simp) ?_ ?_ ?_ ih
        · rw [db_pos (by omega)]
          refine hfit_cons rfl (hb0 _) (hfit_cons rfl ?_ hfit_nil)
          rw [hb]; exact bfit_g (lc_rens ..)
        · simp [uniq, hwb, wrB, db]
        · rw [dv_pos (by omega)]
          simp only [go_sem, Nat.reduceAdd, Nat.reduceSub, Nat.reduceLeDiff, Nat.reduceMul, Nat.reduceLT, Nat.reduceEqDiff, Int.reduceLT, Int.reduceLE, Int.reduceAdd, Int.reduceSub, Int.reduceMul, Int.reduceToNat, reduceIte, reduceCtorEq, Nat.reduceBEq, hfit, lc_fit, scs_fit, fit, ren, gmap, lw_plain, true_or, or_true, hrs]
      · have hp : 0 < i := by omega
        rw [dv_pos hp, db_pos hp]
        have a1 : ((i + 1) * 32 ≤ 140737488355328) = True := eq_true (by omega)
        have a2 : (i + 1 ≤ 9223372036854775807) = True := eq_true (by omega)
        have a3 := scs_snoc i (fl f N) hv
        refine run_loop_eq v25_9.eq_1 ?_
        refine run_driveS 80 ?_
        simp only [go_sem, Nat.reduceAdd, Nat.reduceSub, Nat.reduceLeDiff, Nat.reduceMul, Nat.reduceLT, Nat.reduceEqDiff, Int.reduceLT, Int.reduceLE, Int.reduceAdd, Int.reduceSub, Int.reduceMul, Int.reduceToNat, reduceIte, reduceCtorEq, Nat.reduceBEq, v25_7, v25_3, v25_4, h0, h1, hkn, hlen, hone]
        refine run_cond_f (by rfl) ?_
        refine run_driveS 80 ?_
        simp only [go_sem, Nat.reduceAdd, Nat.reduceSub, Nat.reduceLeDiff, Nat.reduceMul, Nat.reduceLT, Nat.reduceEqDiff, Int.reduceLT, Int.reduceLE, Int.reduceAdd, Int.reduceSub, Int.reduceMul, Int.reduceToNat, reduceIte, reduceCtorEq, Nat.reduceBEq, v25_6, h3, h4, h5, hw]
        refine run_call' rfl ?_
        simp only [go_sem, Nat.reduceAdd, Nat.reduceSub, Nat.reduceLeDiff, Nat.reduceMul, Nat.reduceLT, Nat.reduceEqDiff, Int.reduceLT, Int.reduceLE, Int.reduceAdd, Int.reduceSub, Int.reduceMul, Int.reduceToNat, reduceIte, reduceCtorEq, Nat.reduceBEq, calV]
        refine int' (3 * i + 2) (by omega) ?_
        refine run_driveS 80 ?_
        simp only [go_sem, Nat.reduceAdd, Nat.reduceSub, Nat.reduceLeDiff, Nat.reduceMul, Nat.reduceLT, Nat.reduceEqDiff, Int.reduceLT, Int.reduceLE, Int.reduceAdd, Int.reduceSub, Int.reduceMul, Int.reduceToNat, reduceIte, reduceCtorEq, Nat.reduceBEq, v25_8, a1, a2, a3, hw]
        refine run_rename [0, 3] rfl (by simp) ?_ ?_ ?_ ih
        · rw [db_pos (by omega)]
          refine hfit_cons rfl (hb0 _) (hfit_cons rfl ?_ hfit_nil)
          exact bfit_g (scs_rens ..)
        · simp [uniq, hwb, wrB, db]
        · rw [dv_pos (by omega)]
          simp only [go_sem, Nat.reduceAdd, Nat.reduceSub, Nat.reduceLeDiff, Nat.reduceMul, Nat.reduceLT, Nat.reduceEqDiff, Int.reduceLT, Int.reduceLE, Int.reduceAdd, Int.reduceSub, Int.reduceMul, Int.reduceToNat, reduceIte, reduceCtorEq, Nat.reduceBEq, hfit, lc_fit, scs_fit, fit, ren, gmap, lw_plain, true_or, or_true, hrs]
  · have h0 : ((n : Int) < (n : Int)) = False := eq_false (by omega)
    rw [dv_pos hn0, db_pos hn0]
    refine run_loop_eq v25_9.eq_1 ?_
    refine run_driveS 80 ?_
    simp only [go_sem, Nat.reduceAdd, Nat.reduceSub, Nat.reduceLeDiff, Nat.reduceMul, Nat.reduceLT, Nat.reduceEqDiff, Int.reduceLT, Int.reduceLE, Int.reduceAdd, Int.reduceSub, Int.reduceMul, Int.reduceToNat, reduceIte, reduceCtorEq, Nat.reduceBEq, v25_7, v25_3, h0]
    refine run_exit rfl ?_
    refine run_driveS 80 ?_
    simp only [go_sem, Nat.reduceAdd, Nat.reduceSub, Nat.reduceLeDiff, Nat.reduceMul, Nat.reduceLT, Nat.reduceEqDiff, Int.reduceLT, Int.reduceLE, Int.reduceAdd, Int.reduceSub, Int.reduceMul, Int.reduceToNat, reduceIte, reduceCtorEq, Nat.reduceBEq, v25_11]
    refine run_ret_drop Tryd.func25 res25 [0, 1] (.sl 1 0 n (.grow 4)) _ rfl (by simp) ?_ ?_ ?_ hQ
    · exact hfit_cons rfl (hb0 _) (hfit_cons rfl (bfit_g (scs_rens ..)) hfit_nil)
    · simp [uniq, hwb, wrB]
    · simp only [go_sem, Nat.reduceAdd, Nat.reduceSub, Nat.reduceLeDiff, Nat.reduceMul, Nat.reduceLT, Nat.reduceEqDiff, Int.reduceLT, Int.reduceLE, Int.reduceAdd, Int.reduceSub, Int.reduceMul, Int.reduceToNat, reduceIte, reduceCtorEq, Nat.reduceBEq, rr25, ren, gmap]
theorem line_of_ (f : Nat → Nat) (n : Nat) (hn0 : 0 < n) (hn : n ≤ 100) (c : Cap) (Q : V → Heap → Prop) (hQ : Q (.sl 1 0 n (.grow 4)) [some ⟨.ro, scs n f⟩, some ⟨.grow, scs n f⟩]) : VCall Tryd.prog G 26 [.sl 0 0 n c] [some ⟨.ro, scs n f⟩] Q := by
  refine vcall_body Tryd.func26 nm26 code26 nt26 ?_
  refine run_driveS 80 ?_
  simp only [go_sem, Nat.reduceAdd, Nat.reduceSub, Nat.reduceLeDiff, Nat.reduceMul, Nat.reduceLT, Nat.reduceEqDiff, Int.reduceLT, Int.reduceLE, Int.reduceAdd, Int.reduceSub, Int.reduceMul, Int.reduceToNat, reduceIte, reduceCtorEq, Nat.reduceBEq, v26, v26_0, v26_1, v26_2, v26_8]
  refine run_rename [0, 1] (st' := ⟨[.sl 0 0 n c, .unk, .nils, dv 1 0, .int .i64 (0 : Nat)] ++ List.replicate 15 .unk, [some ⟨.ro, scs n f⟩, db f 0]⟩) rfl (by simp) ?_ ?_ ?_ (run_for (fun i => ⟨[.sl 0 0 n c, .unk, .nils, dv 1 i, .int .i64 (i : Nat)] ++ List.replicate 15 .unk, [some ⟨.ro, scs n f⟩, db f i]⟩) n (fun i hin ih => ?_) ?_)
  · exact hfit_cons rfl (bfit_same (scs_rens ..)) (hfit_cons_none hfit_nil)
  · simp [uniq, wrB, db]
  · rw [dv_zero']
    simp only [go_sem, Nat.reduceAdd, Nat.reduceSub, Nat.reduceLeDiff, Nat.reduceMul, Nat.reduceLT, Nat.reduceEqDiff, Int.reduceLT, Int.reduceLE, Int.reduceAdd, Int.reduceSub, Int.reduceMul, Int.reduceToNat, reduceIte, reduceCtorEq, Nat.reduceBEq, hfit, lc_fit, scs_fit, fit, ren, gmap, lw_plain, true_or, or_true]
  · have h0 : ((i : Int) < (n : Int)) = True := eq_true (by omega)
    have hw : IntKind.i64.wrap ((i : Int) + 1) = ((i + 1 : Nat) : Int) := by rw [wrap_i64 (by omega) (by omega)]; omega
    have hg := scs_get' n f (i := i) hin
    by_cases hz : i = 0
    · subst hz
      have h0' : ((0 : Int) < (n : Int)) = True := eq_true (by omega)
      rw [Nat.zero_mul, List.drop_zero] at hg
      rw [dv_zero', show db f 0 = none from rfl]
      have hb := scs_s1 f rfl
      refine run_loop_eq v26_7.eq_1 ?_
      refine run_driveS 80 ?_
      simp only [go_sem, Nat.reduceAdd, Nat.reduceSub, Nat.reduceLeDiff, Nat.reduceMul, Nat.reduceLT, Nat.reduceEqDiff, Int.reduceLT, Int.reduceLE, Int.reduceAdd, Int.reduceSub, Int.reduceMul, Int.reduceToNat, reduceIte, reduceCtorEq, Nat.reduceBEq, v26_5, v26_3, v26_4, v26_6, h0', hg, lenO_sl]
      refine run_rename [0, 3] rfl (by simp) ?_ ?_ ?_ ih
      · rw [db_pos (by omega)]
        refine hfit_cons rfl (bfit_same (scs_rens ..)) (hfit_cons rfl ?_ hfit_nil)
        rw [hb]; exact bfit_g (lc_rens ..)
      · simp [uniq, wrB, db]
      · rw [dv_pos (by omega)]
        simp only [go_sem, Nat.reduceAdd, Nat.reduceSub, Nat.reduceLeDiff, Nat.reduceMul, Nat.reduceLT, Nat.reduceEqDiff, Int.reduceLT, Int.reduceLE, Int.reduceAdd, Int.reduceSub, Int.reduceMul, Int.reduceToNat, reduceIte, reduceCtorEq, Nat.reduceBEq, hfit, lc_fit, scs_fit, fit, ren, gmap, lw_plain, true_or, or_true]
    · have hp : 0 < i := by omega
      rw [dv_pos hp, db_pos hp]
      have a1 : ((i + 1) * 32 ≤ 140737488355328) = True := eq_true (by omega)
      have a2 : (i + 1 ≤ 9223372036854775807) = True := eq_true (by omega)
      have a3 := scs_snoc i f rfl
      refine run_loop_eq v26_7.eq_1 ?_
      refine run_driveS 80 ?_
      simp only [go_sem, Nat.reduceAdd, Nat.reduceSub, Nat.reduceLeDiff, Nat.reduceMul, Nat.reduceLT, Nat.reduceEqDiff, Int.reduceLT, Int.reduceLE, Int.reduceAdd, Int.reduceSub, Int.reduceMul, Int.reduceToNat, reduceIte, reduceCtorEq, Nat.reduceBEq, v26_5, v26_3, v26_4, v26_6, h0, hg, lenO_sl, a1, a2, a3, hw]
      refine run_rename [0, 3] rfl (by simp) ?_ ?_ ?_ ih
      · rw [db_pos (by omega)]
        refine hfit_cons rfl (bfit_same (scs_rens ..)) (hfit_cons rfl ?_ hfit_nil)
        exact bfit_g (scs_rens ..)
      · simp [uniq, wrB, db]
      · rw [dv_pos (by omega)]
        simp only [go_sem, Nat.reduceAdd, Nat.reduceSub, Nat.reduceLeDiff, Nat.reduceMul, Nat.reduceLT, Nat.reduceEqDiff, Int.reduceLT, Int.reduceLE, Int.reduceAdd, Int.reduceSub, Int.reduceMul, Int.reduceToNat, reduceIte, reduceCtorEq, Nat.reduceBEq, hfit, lc_fit, scs_fit, fit, ren, gmap, lw_plain, true_or, or_true]
  · have h0 : ((n : Int) < (n : Int)) = False := eq_false (by omega)
    rw [dv_pos hn0, db_pos hn0]
    refine run_loop_eq v26_7.eq_1 ?_
    refine run_driveS 80 ?_
    simp only [go_sem, Nat.reduceAdd, Nat.reduceSub, Nat.reduceLeDiff, Nat.reduceMul, Nat.reduceLT, Nat.reduceEqDiff, Int.reduceLT, Int.reduceLE, Int.reduceAdd, Int.reduceSub, Int.reduceMul, Int.reduceToNat, reduceIte, reduceCtorEq, Nat.reduceBEq, v26_5, v26_3, h0, lenO_sl]
    refine run_exit rfl ?_
    refine run_driveS 80 ?_
    simp only [go_sem, Nat.reduceAdd, Nat.reduceSub, Nat.reduceLeDiff, Nat.reduceMul, Nat.reduceLT, Nat.reduceEqDiff, Int.reduceLT, Int.reduceLE, Int.reduceAdd, Int.reduceSub, Int.reduceMul, Int.reduceToNat, reduceIte, reduceCtorEq, Nat.reduceBEq, v26_9]
    refine run_ret_drop Tryd.func26 res26 [0, 1] (.sl 1 0 n (.grow 4)) _ rfl (by simp) ?_ ?_ ?_ hQ
    · exact hfit_cons rfl (bfit_same (scs_rens ..)) (hfit_cons rfl (bfit_g (scs_rens ..)) hfit_nil)
    · simp [uniq, wrB]
    · simp only [go_sem, Nat.reduceAdd, Nat.reduceSub, Nat.reduceLeDiff, Nat.reduceMul, Nat.reduceLT, Nat.reduceEqDiff, Int.reduceLT, Int.reduceLE, Int.reduceAdd, Int.reduceSub, Int.reduceMul, Int.reduceToNat, reduceIte, reduceCtorEq, Nat.reduceBEq, rr26, ren, gmap]
theorem invert_all_nil {h : Heap} {R : V → Heap → Prop} (hQ : R .nils h) : VCall Tryd.prog G 42 [.nils] h R := by
  refine vcall_plain (Q := fun v => v = .nils) ?_ (fun g => by simp only [rens, ren]) (fun v g hv => by subst hv; rfl) (fun v hv => by subst hv; exact hQ)
  refine vcall_body Tryd.func42 nm42 code42 nt42 ?_
  refine run_driveS 80 ?_
  simp only [go_sem, Nat.reduceAdd, Nat.reduceSub, Nat.reduceLeDiff, Nat.reduceMul, Nat.reduceLT, Nat.reduceEqDiff, Int.reduceLT, Int.reduceLE, Int.reduceAdd, Int.reduceSub, Int.reduceMul, Int.reduceToNat, reduceIte, reduceCtorEq, Nat.reduceBEq, v42, v42_0, v42_1]
  refine run_cond_t (by rfl) ?_
  refine run_driveS 80 ?_
  simp only [go_sem, Nat.reduceAdd, Nat.reduceSub, Nat.reduceLeDiff, Nat.reduceMul, Nat.reduceLT, Nat.reduceEqDiff, Int.reduceLT, Int.reduceLE, Int.reduceAdd, Int.reduceSub, Int.reduceMul, Int.reduceToNat, reduceIte, reduceCtorEq, Nat.reduceBEq, v42_2]
  refine run_ret_drop Tryd.func42 res42 [] .nils [] rfl (by simp) trivial (by simp [uniq]) ?_ ⟨rfl, rfl⟩
  simp only [go_sem, Nat.reduceAdd, Nat.reduceSub, Nat.reduceLeDiff, Nat.reduceMul, Nat.reduceLT, Nat.reduceEqDiff, Int.reduceLT, Int.reduceLE, Int.reduceAdd, Int.reduceSub, Int.reduceMul, Int.reduceToNat, reduceIte, reduceCtorEq, Nat.reduceBEq, rr42, ren]
theorem weights_nil (Q : V → Heap → Prop) (hQ : Q (.tup [.sl 0 0 1 (.exact 1), .int .i64 0]) [some ⟨.rw, lc 1⟩]) : VCall Tryd.prog G 27 [.nils] [] Q := by
  refine vcall_body Tryd.func27 nm27 code27 nt27 ?_
  refine run_driveS 80 ?_
  simp only [go_sem, Nat.reduceAdd, Nat.reduceSub, Nat.reduceLeDiff, Nat.reduceMul, Nat.reduceLT, Nat.reduceEqDiff, Int.reduceLT, Int.reduceLE, Int.reduceAdd, Int.reduceSub, Int.reduceMul, Int.reduceToNat, reduceIte, reduceCtorEq, Nat.reduceBEq, v27, v27_0, v27_1]
  refine run_cond_f (by rfl) ?_
  refine run_driveS 80 ?_
  simp only [go_sem, Nat.reduceAdd, Nat.reduceSub, Nat.reduceLeDiff, Nat.reduceMul, Nat.reduceLT, Nat.reduceEqDiff, Int.reduceLT, Int.reduceLE, Int.reduceAdd, Int.reduceSub, Int.reduceMul, Int.reduceToNat, reduceIte, reduceCtorEq, Nat.reduceBEq, v27_3, v27_11]
  refine run_loop_eq v27_10.eq_1 ?_
  refine run_driveS 80 ?_
  simp only [go_sem, Nat.reduceAdd, Nat.reduceSub, Nat.reduceLeDiff, Nat.reduceMul, Nat.reduceLT, Nat.reduceEqDiff, Int.reduceLT, Int.reduceLE, Int.reduceAdd, Int.reduceSub, Int.reduceMul, Int.reduceToNat, reduceIte, reduceCtorEq, Nat.reduceBEq, v27_4]
  refine run_exit rfl ?_
  refine run_driveS 80 ?_
  simp only [go_sem, Nat.reduceAdd, Nat.reduceSub, Nat.reduceLeDiff, Nat.reduceMul, Nat.reduceLT, Nat.reduceEqDiff, Int.reduceLT, Int.reduceLE, Int.reduceAdd, Int.reduceSub, Int.reduceMul, Int.reduceToNat, reduceIte, reduceCtorEq, Nat.reduceBEq, v27_12]
  refine run_call' rfl ?_
  simp only [go_sem, Nat.reduceAdd, Nat.reduceSub, Nat.reduceLeDiff, Nat.reduceMul, Nat.reduceLT, Nat.reduceEqDiff, Int.reduceLT, Int.reduceLE, Int.reduceAdd, Int.reduceSub, Int.reduceMul, Int.reduceToNat, reduceIte, reduceCtorEq, Nat.reduceBEq, calV]
  refine invert_all_nil ?_
  refine run_driveS 80 ?_
  simp only [go_sem, Nat.reduceAdd, Nat.reduceSub, Nat.reduceLeDiff, Nat.reduceMul, Nat.reduceLT, Nat.reduceEqDiff, Int.reduceLT, Int.reduceLE, Int.reduceAdd, Int.reduceSub, Int.reduceMul, Int.reduceToNat, reduceIte, reduceCtorEq, Nat.reduceBEq, v27_13]
  refine run_call' rfl ?_
  simp only [go_sem, Nat.reduceAdd, Nat.reduceSub, Nat.reduceLeDiff, Nat.reduceMul, Nat.reduceLT, Nat.reduceEqDiff, Int.reduceLT, Int.reduceLE, Int.reduceAdd, Int.reduceSub, Int.reduceMul, Int.reduceToNat, reduceIte, reduceCtorEq, Nat.reduceBEq, calV]
  refine int' 1 (by decide) ?_
  refine run_driveS 80 ?_
  simp only [go_sem, Nat.reduceAdd, Nat.reduceSub, Nat.reduceLeDiff, Nat.reduceMul, Nat.reduceLT, Nat.reduceEqDiff, Int.reduceLT, Int.reduceLE, Int.reduceAdd, Int.reduceSub, Int.reduceMul, Int.reduceToNat, reduceIte, reduceCtorEq, Nat.reduceBEq, v27_14, v27_30]
  refine run_loop_eq v27_29.eq_1 ?_
  refine run_driveS 80 ?_
  simp only [go_sem, Nat.reduceAdd, Nat.reduceSub, Nat.reduceLeDiff, Nat.reduceMul, Nat.reduceLT, Nat.reduceEqDiff, Int.reduceLT, Int.reduceLE, Int.reduceAdd, Int.reduceSub, Int.reduceMul, Int.reduceToNat, reduceIte, reduceCtorEq, Nat.reduceBEq, v27_15]
  refine run_exit rfl ?_
  refine run_driveS 80 ?_
  simp only [go_sem, Nat.reduceAdd, Nat.reduceSub, Nat.reduceLeDiff, Nat.reduceMul, Nat.reduceLT, Nat.reduceEqDiff, Int.reduceLT, Int.reduceLE, Int.reduceAdd, Int.reduceSub, Int.reduceMul, Int.reduceToNat, reduceIte, reduceCtorEq, Nat.reduceBEq, v27_31]
  refine run_ret_drop Tryd.func27 res27 [0] (.tup [.sl 0 0 1 (.exact 1), .int .i64 0]) _ rfl (by simp) ?_ ?_ ?_ hQ
  · simp only [go_sem, Nat.reduceAdd, Nat.reduceSub, Nat.reduceLeDiff, Nat.reduceMul, Nat.reduceLT, Nat.reduceEqDiff, Int.reduceLT, Int.reduceLE, Int.reduceAdd, Int.reduceSub, Int.reduceMul, Int.reduceToNat, reduceIte, reduceCtorEq, Nat.reduceBEq, hfit, lc_fit, scs_fit, fit, ren, gmap, lw_plain, true_or, or_true]
  · simp [uniq, wrB]
  · simp only [go_sem, Nat.reduceAdd, Nat.reduceSub, Nat.reduceLeDiff, Nat.reduceMul, Nat.reduceLT, Nat.reduceEqDiff, Int.reduceLT, Int.reduceLE, Int.reduceAdd, Int.reduceSub, Int.reduceMul, Int.reduceToNat, reduceIte, reduceCtorEq, Nat.reduceBEq, rr27, ren, rens, gmap]
end
end Go.Vs.Tryd
namespace Go.Vs.Tryd
instance nzell : NeZero ell := ⟨by decide⟩
theorem wf_wt0 (f : Nat → Nat) (n j : Nat) : ∀ k, k ≤ n → wf f n j = wf f (n - k) (j / 2 ^ k) * wt (fun i => linv (f i % ell)) (fun i => f i % ell) n k (j % 2 ^ k) % ell
  | 0, _ => by rw [Nat.pow_zero, Nat.div_one, Nat.sub_zero, wt, Nat.mul_one, Nat.mod_eq_of_lt (wf_lt f n j)]
  | k + 1, h => by
    rw [wf_wt0 f n j k (by omega)]
    obtain ⟨t, ht⟩ : ∃ t, n - k = t + 1 := ⟨n - k - 1, by omega⟩
    have ht1 : n - (k + 1) = t := by omega
    have ht2 : n - 1 - k = t := by omega
    rw [ht, ht1]
    have hdiv : j / 2 ^ (k + 1) = j / 2 ^ k / 2 := by rw [Nat.pow_succ, Nat.div_div_eq_div_mul]
    have hmod : j % 2 ^ (k + 1) = j % 2 ^ k + 2 ^ k * (j / 2 ^ k % 2) := by rw [Nat.pow_succ, Nat.mod_mul]
    have hlt : j % 2 ^ k < 2 ^ k := Nat.mod_lt _ (Nat.two_pow_pos k)
    rw [hdiv, hmod]
    generalize j / 2 ^ k = q at *
    rcases Nat.mod_two_eq_zero_or_one q with hq | hq
    · rw [hq, Nat.mul_zero, show j % 2 ^ k + 0 = j % 2 ^ k from rfl, wt, if_pos hlt, ht2, wf, if_pos hq]
      show _ = wf f t (q / 2) * (wt _ _ n k (j % 2 ^ k) * linv (f t % ell) % ell) % ell
      rw [linv_mod', mmod, mmod', Nat.mul_assoc, Nat.mul_comm (linv (f t))]
    · rw [hq, Nat.mul_one, wt, if_neg (by omega), Nat.add_sub_cancel, ht2, wf, if_neg (by omega)]
      show _ = wf f t (q / 2) * (wt _ _ n k (j % 2 ^ k) * (f t % ell) % ell) % ell
      rw [mmod' (wt _ _ n k _) (f t), mmod, mmod', Nat.mul_assoc, Nat.mul_comm (f t)]
theorem wf_wt (f : Nat → Nat) (n j : Nat) (hj : j < 2 ^ n) : wf f n j = wt (fun i => linv (f i % ell)) (fun i => f i % ell) n n j := by
  rw [wf_wt0 f n j n (Nat.le_refl n), Nat.sub_self, wf, Nat.one_mul, Nat.mod_eq_of_lt hj, Nat.mod_eq_of_lt (wt_lt _ _ n n j)]
end Go.Vs.Tryd
namespace Go.Vs.Tryd
open Go.Proofs
variable {G : Nat → List V}
set_option linter.unusedSimpArgs false
attribute [local go_sem] lenO_nils lenO_sl sliceAtV Int.sub_zero List.length_append List.all_append ge_iff_le gt_iff_lt Int.natCast_nonneg Int.toNat_natCast Nat.mul_one b_and_ll b_shr_ll b_mul_ll b_add_ll b_or_ll b_shl_ll pick_ll pick_lc pick_bb driveS stopV Option.isSome_some Option.isSome_none Kind.m Kind.w Kind.g look_ro look_rw look_grow drive stepV exo expo evs fillV isNil nilKind eqV eqL optA optM sliceAtV ev kn ldc stc splice appV srcV lenV setd wantV exitV rvs rv one List.length_cons List.length_nil List.cons_append List.nil_append List.append_nil List.replicate List.getD_cons_zero List.getD_cons_succ List.set_cons_zero List.set_cons_succ List.getElem?_cons_zero List.getElem?_cons_succ List.getElem?_nil List.take_succ_cons List.take_zero List.take_nil List.drop_succ_cons List.drop_zero List.drop_nil List.all_cons List.all_nil List.any_cons List.any_nil Bool.and_true Bool.true_and Bool.and_self Option.map_some Option.map_none Option.bind_some Option.some.injEq Nat.add_zero Nat.zero_add Int.toNat_zero Int.toNat_one Int.zero_add Int.add_zero if_true if_false ite_true ite_false and_true true_and and_self ne_eq not_false_eq_true not_true_eq_false decide_true decide_false Bool.false_eq_true Bool.not_true Bool.not_false beq_self_eq_true BEq.rfl Bool.not_eq_true Nat.le_refl Int.le_refl Nat.zero_le List.foldl List.map_cons List.map_nil Prod.mk.injEq Int.cast_ofNat_Int Int.zero_le_ofNat b_add_cc b_add_cl b_add_lc b_mul_cc b_mul_cl b_mul_lc b_sub_cc b_sub_cl b_sub_lc b_and_cc b_and_cl b_and_lc b_or_cc b_or_cl b_or_lc b_xor_cc b_xor_cl b_xor_lc b_andNot_cc b_andNot_cl b_andNot_lc b_shr_cc b_shr_cl b_shr_lc b_shl_cc b_shl_cl b_shl_lc b_lss b_leq b_gtr b_geq b_add_i b_sub_i b_mul_i beq_cc beq_cl beq_lc beq_ll b_quo_i b_rem_i neg_u64 wrap_i64 driveD stepD idsAt idOf maskH_nil restore_nil restore_mask List.filterMap_nil List.filterMap_cons VOp.looks VOp.makes exA cells_agg cells_int cells_bool cells_str cells_nilp cells_ptr cells_glob cells_nils cells_sl cells_nilf cells_fn cells_nili cells_ifc known_agg known_tup known_int known_bool known_str known_nilp known_ptr known_glob known_nils known_sl known_nilf known_fn known_nili known_ifc known_unk one_agg one_tup one_int one_bool one_str one_nilp one_ptr one_glob one_nils one_sl one_nilf one_fn one_nili one_ifc asK_int asN_int asB_bool asS_str asG_agg asT_tup
attribute [local go_sem ↓] lc_len lc_take lc_drop lc_known lc_one lc_rens lc_cells lw_known lw_agg lw_asG scs_known scs_one scs_len
attribute [local go_sem] lt_nat lt_natl lt_lnat lt_ll bool_tf bool_ft
attribute [local go_sem ↓] ecs_rens
set_option maxRecDepth 100000
set_option maxHeartbeats 1000000
def forg : List V → List V → Prop
  | [], [] => True
  | v :: r, u :: s => (v = .unk ∨ v = u) ∧ forg r s
  | _, _ => False
theorem forg_get : ∀ {l m : List V}, forg l m → l.length = m.length ∧ ∀ (i : Nat) v, l[i]? = some v → v ≠ .unk → m[i]? = some v
  | [], [], _ => ⟨rfl, fun i v h => by simp at h⟩
  | v :: r, u :: s, h => by
    obtain ⟨h1, h2⟩ := forg_get h.2
    refine ⟨by simp [h1], fun i x hx hne => ?_⟩
    cases i with
    | zero =>
      obtain rfl : v = x := by simpa using hx
      rcases h.1 with e | e
      · exact absurd e hne
      · simp [e]
    | succ i => exact h2 i x (by simpa using hx) hne
theorem run_tmps {P : Program} {f : FuncId} {n : Nat} {Q : V → Heap → Prop} {k : List TI} {l m : List V} {H : Heap} (ht : forg l m) (h : Run P G f n Q (k, ⟨l, H⟩)) : Run P G f n Q (k, ⟨m, H⟩) := by
  intro ρ₀ h₀ w₀ ρ a w hn hk hsim htr hd
  obtain ⟨e1, e2⟩ := forg_get ht
  exact h ρ₀ h₀ w₀ ρ a w hn hk hsim ⟨by rw [← htr.1]; exact e1, fun t v hv hne => htr.2 t _ (e2 t v hv hne) hne⟩ hd
end Go.Vs.Tryd
namespace Go.Vs.Tryd
open Go.Proofs
variable {G : Nat → List V}
set_option linter.unusedSimpArgs false
attribute [local go_sem] lenO_nils lenO_sl sliceAtV Int.sub_zero List.length_append List.all_append ge_iff_le gt_iff_lt Int.natCast_nonneg Int.toNat_natCast Nat.mul_one b_and_ll b_shr_ll b_mul_ll b_add_ll b_or_ll b_shl_ll pick_ll pick_lc pick_bb driveS stopV Option.isSome_some Option.isSome_none Kind.m Kind.w Kind.g look_ro look_rw look_grow drive stepV exo expo evs fillV isNil nilKind eqV eqL optA optM sliceAtV ev kn ldc stc splice appV srcV lenV setd wantV exitV rvs rv one List.length_cons List.length_nil List.cons_append List.nil_append List.append_nil List.replicate List.getD_cons_zero List.getD_cons_succ List.set_cons_zero List.set_cons_succ List.getElem?_cons_zero List.getElem?_cons_succ List.getElem?_nil List.take_succ_cons List.take_zero List.take_nil List.drop_succ_cons List.drop_zero List.drop_nil List.all_cons List.all_nil List.any_cons List.any_nil Bool.and_true Bool.true_and Bool.and_self Option.map_some Option.map_none Option.bind_some Option.some.injEq Nat.add_zero Nat.zero_add Int.toNat_zero Int.toNat_one Int.zero_add Int.add_zero if_true if_false ite_true ite_false and_true true_and and_self ne_eq not_false_eq_true not_true_eq_false decide_true decide_false Bool.false_eq_true Bool.not_true Bool.not_false beq_self_eq_true BEq.rfl Bool.not_eq_true Nat.le_refl Int.le_refl Nat.zero_le List.foldl List.map_cons List.map_nil Prod.mk.injEq Int.cast_ofNat_Int Int.zero_le_ofNat b_add_cc b_add_cl b_add_lc b_mul_cc b_mul_cl b_mul_lc b_sub_cc b_sub_cl b_sub_lc b_and_cc b_and_cl b_and_lc b_or_cc b_or_cl b_or_lc b_xor_cc b_xor_cl b_xor_lc b_andNot_cc b_andNot_cl b_andNot_lc b_shr_cc b_shr_cl b_shr_lc b_shl_cc b_shl_cl b_shl_lc b_lss b_leq b_gtr b_geq b_add_i b_sub_i b_mul_i beq_cc beq_cl beq_lc beq_ll b_quo_i b_rem_i neg_u64 wrap_i64 driveD stepD idsAt idOf maskH_nil restore_nil restore_mask List.filterMap_nil List.filterMap_cons VOp.looks VOp.makes exA cells_agg cells_int cells_bool cells_str cells_nilp cells_ptr cells_glob cells_nils cells_sl cells_nilf cells_fn cells_nili cells_ifc known_agg known_tup known_int known_bool known_str known_nilp known_ptr known_glob known_nils known_sl known_nilf known_fn known_nili known_ifc known_unk one_agg one_tup one_int one_bool one_str one_nilp one_ptr one_glob one_nils one_sl one_nilf one_fn one_nili one_ifc asK_int asN_int asB_bool asS_str asG_agg asT_tup true_or or_true false_or or_false
section
attribute [local go_sem ↓] lc_len lc_take lc_drop lc_known lc_one lc_rens lc_cells lw_known lw_agg lw_asG scs_known scs_one scs_len lc_take_add lc_drop_add lenO_dv dv_known dv_one dv_ren
attribute [local go_sem] lt_nat lt_natl lt_lnat lt_ll bool_tf bool_ft
set_option maxRecDepth 100000
set_option maxHeartbeats 2000000
theorem ivl_pos {i n m : Nat} {z : Bool} (ho : Ok n m z) (h : 0 < n) : ivl i n m z = .sl i 0 n (.exact m) := if_neg (fun e => by have := ho.2 e; omega)
theorem ivb_pos {f : Nat → Nat} {n m : Nat} {z : Bool} (ho : Ok n m z) (h : 0 < n) : ivb f n z = some ⟨.ro, scs n f⟩ := if_neg (fun e => by have := ho.2 e; omega)
theorem lenO_ivl' {i n m : Nat} {z : Bool} (ho : Ok n m z) : lenO (ivl i n m z) = some n := by
  cases z
  · rfl
  · obtain rfl := ho.2 rfl
    rfl
theorem ivl_one' (i n m : Nat) (z : Bool) : (ivl i n m z).one = true := by cases z <;> rfl
attribute [local go_sem] ivl_known ivl_one'
def up (us : Nat → Nat) (k v : Nat) : Nat → Nat := fun j => if j < k then us j else v
theorem up_lt {us : Nat → Nat} {k v : Nat} (hus : ∀ j, us j < 115792089237316195423570985008687907853269984665640564039457584007913129639936) (hv : v < 115792089237316195423570985008687907853269984665640564039457584007913129639936) : ∀ j, up us k v j < 115792089237316195423570985008687907853269984665640564039457584007913129639936 := fun j => by
  unfold up
  split
  · exact hus j
  · exact hv
theorem up_nz {us : Nat → Nat} {k v : Nat} (hz : ∀ j, j < k → us j % ell ≠ 0) (hv : v % ell ≠ 0) : ∀ j, j < k + 1 → up us k v j % ell ≠ 0 := fun j _ => by
  unfold up
  split
  · exact hz j ‹_›
  · exact hv
theorem up_scs (us : Nat → Nat) (k v : Nat) : scs k us ++ lc v = scs (k + 1) (up us k v) := by
  rw [show scs k us = scs k (up us k v) from scs_congr fun j hj => (if_pos hj).symm]
  exact scs_snoc k _ (if_neg (Nat.lt_irrefl k))
theorem up_one (us : Nat → Nat) (v : Nat) : lc v = scs 1 (up us 0 v) := rfl
theorem bfit_dbg {g f : Nat → Nat} {n : Nat} : bfit g (db f n) (db f n) := by
  unfold db
  split
  · trivial
  · exact bfit_g (scs_rens ..)
section
variable (u : Nat → Nat) (N m : Nat) (z : Bool) (g0 h0 : V) (B0 B1 : Option Blk)
def kv (k i : Nat) : List V := [g0, h0, ivl 2 N m z, .unk, .unk, .unk, .bool false, .int .i64 k, dv 3 k, .int .i64 i] ++ List.replicate 140 .unk
def kh (us : Nat → Nat) (k : Nat) : Heap := [B0, B1, ivb u N z, db us k]
theorem keep_loop (hG : G 0 = tbl) (hu : ∀ j, u j < 115792089237316195423570985008687907853269984665640564039457584007913129639936) (hok : Ok N m z) (hN : N < 9223372036854775808) (hg0 : g0.known = true ∧ g0.one = true ∧ ∀ f : Nat → Nat, (∀ j, j < 3 → f j = j) → ren f g0 = g0) (hh0 : h0.known = true ∧ h0.one = true ∧ ∀ f : Nat → Nat, (∀ j, j < 3 → f j = j) → ren f h0 = h0) (hB0 : ∀ f, bfit f B0 B0) (hB1 : ∀ f, bfit f B1 B1) (hw0 : wrB B0 = false) (hw1 : wrB B1 = false) {Q : V → Heap → Prop} {K : List TI}
    (hK : ∀ k us i, k ≤ 5 → (∀ j, us j < 115792089237316195423570985008687907853269984665640564039457584007913129639936) → (∀ j, j < k → us j % ell ≠ 0) → RunM Tryd.prog G 5 3 {} Q (K, ⟨kv N m z g0 h0 k i, kh u N z B0 B1 us k⟩)) :
    ∀ n i k us, i + n = N → k ≤ 5 → (∀ j, us j < 115792089237316195423570985008687907853269984665640564039457584007913129639936) → (∀ j, j < k → us j % ell ≠ 0) → RunM Tryd.prog G 5 3 {} Q (.l v5_11 :: .b 0 :: K, ⟨kv N m z g0 h0 k i, kh u N z B0 B1 us k⟩) := by
  have hlen := lenO_ivl' (i := 2) hok
  have g3 : ∀ (a L j : Nat), j < 3 → gmap [0, 1, 2, a] L j = j := fun a L j hj => by
    match j, hj with
    | 0, _ | 1, _ | 2, _ => rfl
  have hgr : ∀ a L, ren (gmap [0, 1, 2, a] L) g0 = g0 := fun a L => hg0.2.2 _ (g3 a L)
  have hhr : ∀ a L, ren (gmap [0, 1, 2, a] L) h0 = h0 := fun a L => hh0.2.2 _ (g3 a L)
  intro n
  induction n with
  | zero =>
    intro i k us hi hk hus hz
    obtain rfl : i = N := by omega
    have h0' : ((i : Int) < (i : Int)) = False := eq_false (by omega)
    have hK' := hK k us i hk hus hz
    unfold kv kh at *
    refine run_loop_eq v5_11.eq_1 ?_
    refine run_driveS 80 ?_
    simp only [go_sem, Nat.reduceAdd, Nat.reduceSub, Nat.reduceLeDiff, Nat.reduceMul, Nat.reduceLT, Nat.reduceEqDiff, Int.reduceLT, Int.reduceLE, Int.reduceAdd, Int.reduceSub, Int.reduceMul, Int.reduceToNat, reduceIte, reduceCtorEq, Nat.reduceBEq, v5_4, hlen, h0']
    refine run_exit rfl ?_
    refine run_tmps ?_ hK'
    simp only [go_sem, Nat.reduceAdd, Nat.reduceSub, Nat.reduceLeDiff, Nat.reduceMul, Nat.reduceLT, Nat.reduceEqDiff, Int.reduceLT, Int.reduceLE, Int.reduceAdd, Int.reduceSub, Int.reduceMul, Int.reduceToNat, reduceIte, reduceCtorEq, Nat.reduceBEq, forg, true_or, or_true]
  | succ n ih =>
    intro i k us hi hk hus hz
    have h0' : ((i : Int) < (N : Int)) = True := eq_true (by omega)
    have hok' := ivl_pos (i := 2) hok (by omega)
    have hob' := ivb_pos (f := u) hok (by omega)
    have hg := scs_get' N u (i := i) (by omega)
    have hw : IntKind.i64.wrap ((i : Int) + 1) = ((i + 1 : Nat) : Int) := by rw [wrap_i64 (by omega) (by omega)]; omega
    by_cases hk5 : k < 5
    · have h5 : ((k : Int) < (5 : Int)) = True := eq_true (by omega)
      have ih0 := ih (i + 1) k us (by omega) hk hus hz
      have ih1 := fun e => ih (i + 1) (k + 1) (up us k (u i)) (by omega) (by omega) (up_lt hus (hu i)) (up_nz hz e)
      unfold kv kh at *
      rw [hok', hob'] at *
      refine run_loop_eq v5_11.eq_1 ?_
      refine run_driveS 80 ?_
      simp only [go_sem, Nat.reduceAdd, Nat.reduceSub, Nat.reduceLeDiff, Nat.reduceMul, Nat.reduceLT, Nat.reduceEqDiff, Int.reduceLT, Int.reduceLE, Int.reduceAdd, Int.reduceSub, Int.reduceMul, Int.reduceToNat, reduceIte, reduceCtorEq, Nat.reduceBEq, v5_4, v5_9, v5_5, v5_6, lenO_sl, h0', h5, hg]
      refine run_call' rfl ?_
      simp only [go_sem, Nat.reduceAdd, Nat.reduceSub, Nat.reduceLeDiff, Nat.reduceMul, Nat.reduceLT, Nat.reduceEqDiff, Int.reduceLT, Int.reduceLE, Int.reduceAdd, Int.reduceSub, Int.reduceMul, Int.reduceToNat, reduceIte, reduceCtorEq, Nat.reduceBEq, calV]
      refine is_zero' hG _ (hu i) ?_
      refine run_driveS 80 ?_
      simp only [go_sem, Nat.reduceAdd, Nat.reduceSub, Nat.reduceLeDiff, Nat.reduceMul, Nat.reduceLT, Nat.reduceEqDiff, Int.reduceLT, Int.reduceLE, Int.reduceAdd, Int.reduceSub, Int.reduceMul, Int.reduceToNat, reduceIte, reduceCtorEq, Nat.reduceBEq]
      by_cases hz' : u i % ell = 0
      · refine run_cond_f (by simp only [go_sem, Nat.reduceAdd, Nat.reduceSub, Nat.reduceLeDiff, Nat.reduceMul, Nat.reduceLT, Nat.reduceEqDiff, Int.reduceLT, Int.reduceLE, Int.reduceAdd, Int.reduceSub, Int.reduceMul, Int.reduceToNat, reduceIte, reduceCtorEq, Nat.reduceBEq, decide_eq_true hz']) ?_
        refine run_driveS 80 ?_
        simp only [go_sem, Nat.reduceAdd, Nat.reduceSub, Nat.reduceLeDiff, Nat.reduceMul, Nat.reduceLT, Nat.reduceEqDiff, Int.reduceLT, Int.reduceLE, Int.reduceAdd, Int.reduceSub, Int.reduceMul, Int.reduceToNat, reduceIte, reduceCtorEq, Nat.reduceBEq, v5_10, hw]
        refine run_rename [0, 1, 2, 3] rfl (by simp) ?_ ?_ ?_ ih0
        · exact hfit_cons rfl (hB0 _) (hfit_cons rfl (hB1 _) (hfit_cons rfl (bfit_same (scs_rens ..)) (hfit_cons rfl bfit_dbg hfit_nil)))
        · exact uniq_nodup (by decide)
        · simp only [go_sem, Nat.reduceAdd, Nat.reduceSub, Nat.reduceLeDiff, Nat.reduceMul, Nat.reduceLT, Nat.reduceEqDiff, Int.reduceLT, Int.reduceLE, Int.reduceAdd, Int.reduceSub, Int.reduceMul, Int.reduceToNat, reduceIte, reduceCtorEq, Nat.reduceBEq, hfit, lc_fit, scs_fit, fit, ren, gmap, lw_plain, true_or, or_true, hgr, hhr]
      · refine run_cond_t (by simp only [go_sem, Nat.reduceAdd, Nat.reduceSub, Nat.reduceLeDiff, Nat.reduceMul, Nat.reduceLT, Nat.reduceEqDiff, Int.reduceLT, Int.reduceLE, Int.reduceAdd, Int.reduceSub, Int.reduceMul, Int.reduceToNat, reduceIte, reduceCtorEq, Nat.reduceBEq, decide_eq_false hz']) ?_
        have hwk : IntKind.i64.wrap ((k : Int) + 1) = ((k + 1 : Nat) : Int) := by rw [wrap_i64 (by omega) (by omega)]; omega
        by_cases hk0 : k = 0
        · subst hk0
          have a3 := up_one us (u i)
          rw [dv_zero'] at *
          rw [show db us 0 = none from rfl] at *
          refine run_driveS 80 ?_
          simp only [go_sem, Nat.reduceAdd, Nat.reduceSub, Nat.reduceLeDiff, Nat.reduceMul, Nat.reduceLT, Nat.reduceEqDiff, Int.reduceLT, Int.reduceLE, Int.reduceAdd, Int.reduceSub, Int.reduceMul, Int.reduceToNat, reduceIte, reduceCtorEq, Nat.reduceBEq, v5_7, v5_8, v5_10, hw, hwk]
          refine run_rename [0, 1, 2, 6] rfl (by simp) ?_ ?_ ?_ (ih1 hz')
          · exact hfit_cons rfl (hB0 _) (hfit_cons rfl (hB1 _) (hfit_cons rfl (bfit_same (scs_rens ..)) (hfit_cons rfl (by rw [a3]; exact bfit_g (scs_rens ..)) hfit_nil)))
          · exact uniq_nodup (by decide)
          · rw [dv_pos (by omega)]
            simp only [go_sem, Nat.reduceAdd, Nat.reduceSub, Nat.reduceLeDiff, Nat.reduceMul, Nat.reduceLT, Nat.reduceEqDiff, Int.reduceLT, Int.reduceLE, Int.reduceAdd, Int.reduceSub, Int.reduceMul, Int.reduceToNat, reduceIte, reduceCtorEq, Nat.reduceBEq, hfit, lc_fit, scs_fit, fit, ren, gmap, lw_plain, true_or, or_true, hgr, hhr]
        · have hp : 0 < k := by omega
          have a1 : ((k + 1) * 32 ≤ 140737488355328) = True := eq_true (by omega)
          have a2 : (k + 1 ≤ 9223372036854775807) = True := eq_true (by omega)
          have a3 := up_scs us k (u i)
          rw [dv_pos hp, db_pos hp]
          refine run_driveS 80 ?_
          simp only [go_sem, Nat.reduceAdd, Nat.reduceSub, Nat.reduceLeDiff, Nat.reduceMul, Nat.reduceLT, Nat.reduceEqDiff, Int.reduceLT, Int.reduceLE, Int.reduceAdd, Int.reduceSub, Int.reduceMul, Int.reduceToNat, reduceIte, reduceCtorEq, Nat.reduceBEq, v5_7, v5_8, v5_10, hw, hwk, a1, a2, a3]
          refine run_rename [0, 1, 2, 6] rfl (by simp) ?_ ?_ ?_ (ih1 hz')
          · rw [db_pos (by omega)]
            exact hfit_cons rfl (hB0 _) (hfit_cons rfl (hB1 _) (hfit_cons rfl (bfit_same (scs_rens ..)) (hfit_cons rfl (bfit_g (scs_rens ..)) hfit_nil)))
          · exact uniq_nodup (by decide)
          · rw [dv_pos (by omega)]
            simp only [go_sem, Nat.reduceAdd, Nat.reduceSub, Nat.reduceLeDiff, Nat.reduceMul, Nat.reduceLT, Nat.reduceEqDiff, Int.reduceLT, Int.reduceLE, Int.reduceAdd, Int.reduceSub, Int.reduceMul, Int.reduceToNat, reduceIte, reduceCtorEq, Nat.reduceBEq, hfit, lc_fit, scs_fit, fit, ren, gmap, lw_plain, true_or, or_true, hgr, hhr]
    · obtain rfl : k = 5 := by omega
      have h5 : ((5 : Int) < (5 : Int)) = False := eq_false (by omega)
      have hK' := hK 5 us i hk hus hz
      unfold kv kh at *
      refine run_loop_eq v5_11.eq_1 ?_
      refine run_driveS 80 ?_
      simp only [go_sem, Nat.reduceAdd, Nat.reduceSub, Nat.reduceLeDiff, Nat.reduceMul, Nat.reduceLT, Nat.reduceEqDiff, Int.reduceLT, Int.reduceLE, Int.reduceAdd, Int.reduceSub, Int.reduceMul, Int.reduceToNat, reduceIte, reduceCtorEq, Nat.reduceBEq, v5_4, hlen, h0', h5]
      refine run_exit rfl ?_
      refine run_tmps ?_ hK'
      simp only [go_sem, Nat.reduceAdd, Nat.reduceSub, Nat.reduceLeDiff, Nat.reduceMul, Nat.reduceLT, Nat.reduceEqDiff, Int.reduceLT, Int.reduceLE, Int.reduceAdd, Int.reduceSub, Int.reduceMul, Int.reduceToNat, reduceIte, reduceCtorEq, Nat.reduceBEq, forg, true_or, or_true]
end
end
section
attribute [local go_sem ↓] lc_len lc_take lc_drop lc_known lc_one lc_rens lc_cells lw_known lw_agg lw_asG scs_known scs_one scs_len lc_take_add lc_drop_add lenO_dv dv_known dv_one dv_ren
attribute [local go_sem] lt_nat lt_natl lt_lnat lt_ll bool_tf bool_ft
set_option maxRecDepth 100000
set_option maxHeartbeats 2000000
def tm5 : List V := List.replicate 15 .unk ++ [.ptr 9 0, .ptr 10 0] ++ List.replicate 133 .unk
section
variable (us g h Lf Rf : Nat → Nat) (N P Q' : Nat)
noncomputable def A5 : Nat → Nat → Nat → Option Blk
  | 0, _, _ => some ⟨.rw, lc 0 ++ (lc 0 ++ [.nils, .nils])⟩
  | s + 1, i, j => some ⟨.rw, lc (Ps us Lf Rf P s) ++ (lc Q' ++ [.sl i 0 (2 ^ (N - s)) (.grow 4), .sl j 0 (2 ^ (N - s)) (.grow 4)])⟩
def B5 (t : Nat) : Option Blk := some ⟨.rw, [.int .i64 t]⟩
noncomputable def Z5 : Nat → Option Blk
  | 0 => none
  | s + 1 => some ⟨.grow, scs (2 ^ (N - s)) (Gs us g N s)⟩
noncomputable def W5 : Nat → Option Blk
  | 0 => none
  | s + 1 => some ⟨.grow, scs (2 ^ (N - s)) (Hs us h N s)⟩
theorem round5 (hN : N ≤ 10) (r : Loop) (hr1 : r.state = .ready) (hr2 : r.pending = none) (hr3 : r.fn = 5) (hr4 : r.params.toList = [71]) (hr5 : cCode Tryd.prog r.assign = some v5_27) (hr6 : cCode Tryd.prog r.body = some v5_28) (t : Nat) (ht : t ≤ N) (B0 B1 B2 B3 B4 B5' B6 B7 B12 B13 B14 B17 : Option Blk) {F : V → Heap → Prop} :
    YCall Tryd.prog G 8 [stL (Ps us Lf Rf P t) Q' (.sl 18 0 (2 ^ (N - t)) (.grow 4)) (.sl 19 0 (2 ^ (N - t)) (.grow 4))]
      [B0, B1, B2, B3, B4, B5', B6, B7, some ⟨.loop r, tm5⟩, A5 us Lf Rf N P Q' t 15 16, B5 t, none, B12, B13, B14, Z5 us g N t, W5 us h N t, B17, some ⟨.grow, scs (2 ^ (N - t)) (Gs us g N t)⟩, some ⟨.grow, scs (2 ^ (N - t)) (Hs us h N t)⟩]
      fun v h' => (v = .bool true ∧ ∃ X, h' = B0 :: B1 :: B2 :: B3 :: B4 :: B5' :: B6 :: B7 :: some ⟨.loop r, tm5⟩ :: A5 us Lf Rf N P Q' (t + 1) 18 19 :: B5 (t + 1) :: none :: B12 :: B13 :: B14 :: Z5 us g N t :: W5 us h N t :: B17 :: Z5 us g N (t + 1) :: W5 us h N (t + 1) :: X) ∨ F v h' := by
  refine ycall_of (r := r) (tm := tm5) rfl (by rw [← Array.length_toList, hr4]; rfl) hr5 hr6 ?_
  rw [hr3, hr4]
  unfold tm5 B5 stL
  have hw : IntKind.i64.wrap ((t : Int) + 1) = ((t + 1 : Nat) : Int) := by rw [wrap_i64 (by omega) (by omega)]; omega
  have hrr : (⟨.ready, none, r.fn, r.tmps, r.params, r.assign, r.body, r.defers⟩ : Loop) = r := by
    cases r
    simp only at hr1 hr2
    subst hr1 hr2
    rfl
  rcases t with _ | s
  · unfold A5
    simp only [putps, List.replicate, List.cons_append, List.nil_append]
    refine run_driveS 80 ?_
    simp only [go_sem, Nat.reduceAdd, Nat.reduceSub, Nat.reduceLeDiff, Nat.reduceMul, Nat.reduceLT, Nat.reduceEqDiff, Int.reduceLT, Int.reduceLE, Int.reduceAdd, Int.reduceSub, Int.reduceMul, Int.reduceToNat, reduceIte, reduceCtorEq, Nat.reduceBEq, v5_27, v5_23]
    refine run_beg (i := 8) rfl hr1 ?_
    refine run_driveS 80 ?_
    simp only [go_sem, Nat.reduceAdd, Nat.reduceSub, Nat.reduceLeDiff, Nat.reduceMul, Nat.reduceLT, Nat.reduceEqDiff, Int.reduceLT, Int.reduceLE, Int.reduceAdd, Int.reduceSub, Int.reduceMul, Int.reduceToNat, reduceIte, reduceCtorEq, Nat.reduceBEq, v5_28, v5_26, v5_24, v5_25]
    refine run_round_end (i := 8) rfl (.inl ⟨rfl, [some ⟨.rw, lc (Ps us Lf Rf P 0) ++ (lc Q' ++ [.sl 18 0 (2 ^ (N - 0)) (.grow 4), .sl 19 0 (2 ^ (N - 0)) (.grow 4)])⟩], ?_⟩)
    simp only [go_sem, Nat.reduceAdd, Nat.reduceSub, Nat.reduceLeDiff, Nat.reduceMul, Nat.reduceLT, Nat.reduceEqDiff, Int.reduceLT, Int.reduceLE, Int.reduceAdd, Int.reduceSub, Int.reduceMul, Int.reduceToNat, reduceIte, reduceCtorEq, Nat.reduceBEq, hrr]
    rfl
  · unfold A5
    simp only [putps, List.replicate, List.cons_append, List.nil_append]
    refine run_driveS 80 ?_
    simp only [go_sem, Nat.reduceAdd, Nat.reduceSub, Nat.reduceLeDiff, Nat.reduceMul, Nat.reduceLT, Nat.reduceEqDiff, Int.reduceLT, Int.reduceLE, Int.reduceAdd, Int.reduceSub, Int.reduceMul, Int.reduceToNat, reduceIte, reduceCtorEq, Nat.reduceBEq, v5_27, v5_23]
    refine run_beg (i := 8) rfl hr1 ?_
    refine run_driveS 80 ?_
    simp only [go_sem, Nat.reduceAdd, Nat.reduceSub, Nat.reduceLeDiff, Nat.reduceMul, Nat.reduceLT, Nat.reduceEqDiff, Int.reduceLT, Int.reduceLE, Int.reduceAdd, Int.reduceSub, Int.reduceMul, Int.reduceToNat, reduceIte, reduceCtorEq, Nat.reduceBEq, v5_28, v5_26, v5_24, v5_25, hw]
    refine run_round_end (i := 8) rfl (.inl ⟨rfl, [some ⟨.rw, lc (Ps us Lf Rf P (s + 1)) ++ (lc Q' ++ [.sl 18 0 (2 ^ (N - (s + 1))) (.grow 4), .sl 19 0 (2 ^ (N - (s + 1))) (.grow 4)])⟩], ?_⟩)
    simp only [go_sem, Nat.reduceAdd, Nat.reduceSub, Nat.reduceLeDiff, Nat.reduceMul, Nat.reduceLT, Nat.reduceEqDiff, Int.reduceLT, Int.reduceLE, Int.reduceAdd, Int.reduceSub, Int.reduceMul, Int.reduceToNat, reduceIte, reduceCtorEq, Nat.reduceBEq, hrr]
    rfl
end
end
end Go.Vs.Tryd
namespace Go.Vs.Tryd
open Go.Proofs
variable {G : Nat → List V}
set_option linter.unusedSimpArgs false
attribute [local go_sem] lenO_nils lenO_sl sliceAtV Int.sub_zero List.length_append List.all_append ge_iff_le gt_iff_lt Int.natCast_nonneg Int.toNat_natCast Nat.mul_one b_and_ll b_shr_ll b_mul_ll b_add_ll b_or_ll b_shl_ll pick_ll pick_lc pick_bb driveS stopV Option.isSome_some Option.isSome_none Kind.m Kind.w Kind.g look_ro look_rw look_grow drive stepV exo expo evs fillV isNil nilKind eqV eqL optA optM sliceAtV ev kn ldc stc splice appV srcV lenV setd wantV exitV rvs rv one List.length_cons List.length_nil List.cons_append List.nil_append List.append_nil List.replicate List.getD_cons_zero List.getD_cons_succ List.set_cons_zero List.set_cons_succ List.getElem?_cons_zero List.getElem?_cons_succ List.getElem?_nil List.take_succ_cons List.take_zero List.take_nil List.drop_succ_cons List.drop_zero List.drop_nil List.all_cons List.all_nil List.any_cons List.any_nil Bool.and_true Bool.true_and Bool.and_self Option.map_some Option.map_none Option.bind_some Option.some.injEq Nat.add_zero Nat.zero_add Int.toNat_zero Int.toNat_one Int.zero_add Int.add_zero if_true if_false ite_true ite_false and_true true_and and_self ne_eq not_false_eq_true not_true_eq_false decide_true decide_false Bool.false_eq_true Bool.not_true Bool.not_false beq_self_eq_true BEq.rfl Bool.not_eq_true Nat.le_refl Int.le_refl Nat.zero_le List.foldl List.map_cons List.map_nil Prod.mk.injEq Int.cast_ofNat_Int Int.zero_le_ofNat b_add_cc b_add_cl b_add_lc b_mul_cc b_mul_cl b_mul_lc b_sub_cc b_sub_cl b_sub_lc b_and_cc b_and_cl b_and_lc b_or_cc b_or_cl b_or_lc b_xor_cc b_xor_cl b_xor_lc b_andNot_cc b_andNot_cl b_andNot_lc b_shr_cc b_shr_cl b_shr_lc b_shl_cc b_shl_cl b_shl_lc b_lss b_leq b_gtr b_geq b_add_i b_sub_i b_mul_i beq_cc beq_cl beq_lc beq_ll b_quo_i b_rem_i neg_u64 wrap_i64 driveD stepD idsAt idOf maskH_nil restore_nil restore_mask List.filterMap_nil List.filterMap_cons VOp.looks VOp.makes exA cells_agg cells_int cells_bool cells_str cells_nilp cells_ptr cells_glob cells_nils cells_sl cells_nilf cells_fn cells_nili cells_ifc known_agg known_tup known_int known_bool known_str known_nilp known_ptr known_glob known_nils known_sl known_nilf known_fn known_nili known_ifc known_unk one_agg one_tup one_int one_bool one_str one_nilp one_ptr one_glob one_nils one_sl one_nilf one_fn one_nili one_ifc asK_int asN_int asB_bool asS_str asG_agg asT_tup
attribute [local go_sem ↓] lc_len lc_take lc_drop lc_known lc_one lc_rens lc_cells lw_known lw_agg lw_asG scs_known scs_one scs_len
attribute [local go_sem] lt_nat lt_natl lt_lnat lt_ll bool_tf bool_ft
attribute [local go_sem ↓] ecs_rens
set_option maxRecDepth 100000
set_option maxHeartbeats 1000000
attribute [local go_sem ↓] ivl_known lc_take_add lc_drop_add lenO_dv dv_known dv_one dv_ren
theorem db_map (f : Nat → Nat) (n : Nat) (g : Nat → Nat) : (db f n).map (renB g) = db f n := by
  unfold db
  split
  · rfl
  · simp only [Option.map_some, renB, scs_rens]
theorem bfit_db {g f : Nat → Nat} {n : Nat} : bfit g (rob f n) (db f n) := by
  unfold rob db
  split
  · trivial
  · exact bfit_same (scs_rens ..)
theorem wrB_ro (c : List V) : wrB (some ⟨.ro, c⟩) = false := rfl
end Go.Vs.Tryd
namespace Go.Vs.Tryd
open Go.Proofs
variable {G : Nat → List V}
set_option linter.unusedSimpArgs false
attribute [local go_sem] lenO_nils lenO_sl sliceAtV Int.sub_zero List.length_append List.all_append ge_iff_le gt_iff_lt Int.natCast_nonneg Int.toNat_natCast Nat.mul_one b_and_ll b_shr_ll b_mul_ll b_add_ll b_or_ll b_shl_ll pick_ll pick_lc pick_bb driveS stopV Option.isSome_some Option.isSome_none Kind.m Kind.w Kind.g look_ro look_rw look_grow drive stepV exo expo evs fillV isNil nilKind eqV eqL optA optM sliceAtV ev kn ldc stc splice appV srcV lenV setd wantV exitV rvs rv one List.length_cons List.length_nil List.cons_append List.nil_append List.append_nil List.replicate List.getD_cons_zero List.getD_cons_succ List.set_cons_zero List.set_cons_succ List.getElem?_cons_zero List.getElem?_cons_succ List.getElem?_nil List.take_succ_cons List.take_zero List.take_nil List.drop_succ_cons List.drop_zero List.drop_nil List.all_cons List.all_nil List.any_cons List.any_nil Bool.and_true Bool.true_and Bool.and_self Option.map_some Option.map_none Option.bind_some Option.some.injEq Nat.add_zero Nat.zero_add Int.toNat_zero Int.toNat_one Int.zero_add Int.add_zero if_true if_false ite_true ite_false and_true true_and and_self ne_eq not_false_eq_true not_true_eq_false decide_true decide_false Bool.false_eq_true Bool.not_true Bool.not_false beq_self_eq_true BEq.rfl Bool.not_eq_true Nat.le_refl Int.le_refl Nat.zero_le List.foldl List.map_cons List.map_nil Prod.mk.injEq Int.cast_ofNat_Int Int.zero_le_ofNat b_add_cc b_add_cl b_add_lc b_mul_cc b_mul_cl b_mul_lc b_sub_cc b_sub_cl b_sub_lc b_and_cc b_and_cl b_and_lc b_or_cc b_or_cl b_or_lc b_xor_cc b_xor_cl b_xor_lc b_andNot_cc b_andNot_cl b_andNot_lc b_shr_cc b_shr_cl b_shr_lc b_shl_cc b_shl_cl b_shl_lc b_lss b_leq b_gtr b_geq b_add_i b_sub_i b_mul_i beq_cc beq_cl beq_lc beq_ll b_quo_i b_rem_i neg_u64 wrap_i64 driveD stepD idsAt idOf maskH_nil restore_nil restore_mask List.filterMap_nil List.filterMap_cons VOp.looks VOp.makes exA cells_agg cells_int cells_bool cells_str cells_nilp cells_ptr cells_glob cells_nils cells_sl cells_nilf cells_fn cells_nili cells_ifc known_agg known_tup known_int known_bool known_str known_nilp known_ptr known_glob known_nils known_sl known_nilf known_fn known_nili known_ifc known_unk one_agg one_tup one_int one_bool one_str one_nilp one_ptr one_glob one_nils one_sl one_nilf one_fn one_nili one_ifc asK_int asN_int asB_bool asS_str asG_agg asT_tup true_or or_true false_or or_false
attribute [local go_sem ↓] lc_len lc_take lc_drop lc_known lc_one lc_rens lc_cells lw_known lw_agg lw_asG scs_known scs_one scs_len lc_take_add lc_drop_add lenO_dv dv_known dv_one dv_ren
attribute [local go_sem] lt_nat lt_natl lt_lnat lt_ll bool_tf bool_ft
set_option maxRecDepth 100000
set_option maxHeartbeats 2000000
theorem weights_at (hG : G 0 = tbl) (f : Nat → Nat) (hf : ∀ j, f j < 115792089237316195423570985008687907853269984665640564039457584007913129639936) (n : Nat) (hn : n ≤ 10) (hz : ∀ j, j < n → f j % ell ≠ 0) (p : Nat) {h : Heap} (hp : h[p]? = some (db f n)) {R : V → Heap → Prop} (hR : R (.tup [.sl h.length 0 (2 ^ n) (.exact (2 ^ n)), .int .i64 0]) (h ++ [some ⟨.rw, scs (2 ^ n) (wf f n)⟩])) : VCall Tryd.prog G 27 [dv p n] h R := by
  by_cases h0 : n = 0
  · subst h0
    refine vcall_at (weights_nil (fun v k => v = .tup [.sl 0 0 1 (.exact 1), .int .i64 0] ∧ k = [some ⟨.rw, lc 1⟩]) ⟨rfl, rfl⟩) [] (by simp) hfit_nil (by simp [uniq]) ?_ ?_
    · rw [dv_zero']; rfl
    · rintro v k ⟨rfl, rfl⟩
      rw [puts_ro (by simp) rfl (by simp)]
      rw [show scs (2 ^ 0) (wf f 0) = lc 1 from rfl, Nat.pow_zero] at hR
      simpa [ren, rens, gmap, renB, lc_rens] using hR
  · rw [db_pos (by omega)] at hp
    rw [dv_pos (by omega)]
    refine vcall_at (weights hG f hf [] (fun _ => rfl) n (by omega) (.grow 4) (fun v k => v = .tup [.sl 1 0 (2 ^ n) (.exact (2 ^ n)), .int .i64 0] ∧ k = [some ⟨.ro, scs n f⟩, some ⟨.rw, scs (2 ^ n) (wf f n)⟩]) (fun e => by omega) (fun _ ⟨j, e1, e2⟩ => absurd e2 (hz j e1)) (fun _ _ => ⟨rfl, by rw [List.append_nil]⟩)) [p] ?_ ?_ ?_ ?_ ?_
    · intro i hi
      obtain rfl : i = p := by simpa using hi
      exact (List.getElem?_eq_some_iff.1 hp).1
    · rw [List.append_nil]
      exact hfit_cons hp (bfit_same (scs_rens ..)) hfit_nil
    · exact uniq_nodup (by simp)
    · simp only [rens, ren, gmap]
    · rintro v k ⟨rfl, rfl⟩
      rw [puts_ro (by simp [wrB]) rfl (by simp)]
      simpa [ren, rens, gmap, renB, scs_rens] using hR
section
variable (n : Nat) (w a b : Nat → Nat) (B0 B1 B2 B3 B6 B7 B8 B9 B10 B11 B12 B13 B14 B15 B16 B17 B18 B19 B20 B21 B22 B23 : Option Blk)
def sv5 (i : Nat) : List V := [.unk, .unk, .unk, .unk, .unk, .unk, .bool false, .unk, .unk, .unk, .unk, .int .i64 n, .sl 4 0 n (.grow 4), .sl 5 0 n (.grow 4), .unk, .ptr 9 0, .unk, .unk, .unk, .sl 24 0 n (.exact n), .unk, .ptr 25 0, .ptr 26 0, .int .i64 i] ++ List.replicate 126 .unk
noncomputable def sh5 (i : Nat) : Heap := [B0, B1, B2, B3, some ⟨.grow, scs n a⟩, some ⟨.grow, scs n b⟩, B6, B7, B8, B9, B10, B11, B12, B13, B14, B15, B16, B17, B18, B19, B20, B21, B22, B23, some ⟨.rw, scs n w⟩, some ⟨.rw, lc (sm (fun j => w j * a j) i)⟩, some ⟨.rw, lc (sm (fun j => linv (w j) * b j) i)⟩]
theorem sum5 (hG : G 0 = tbl) (hn : n ≤ 100) (hw : ∀ j, w j < 115792089237316195423570985008687907853269984665640564039457584007913129639936) (ha : ∀ j, a j < 115792089237316195423570985008687907853269984665640564039457584007913129639936) (hb : ∀ j, b j < 115792089237316195423570985008687907853269984665640564039457584007913129639936) {Q : V → Heap → Prop} {K : List TI}
    (hK : RunM Tryd.prog G 5 3 {} Q (K, ⟨sv5 n n, sh5 n w a b B0 B1 B2 B3 B6 B7 B8 B9 B10 B11 B12 B13 B14 B15 B16 B17 B18 B19 B20 B21 B22 B23 n⟩)) :
    RunM Tryd.prog G 5 3 {} Q (.l v5_40 :: .b 4 :: K, ⟨sv5 n 0, sh5 n w a b B0 B1 B2 B3 B6 B7 B8 B9 B10 B11 B12 B13 B14 B15 B16 B17 B18 B19 B20 B21 B22 B23 0⟩) := by
  have hl := ell_lt
  refine run_for (fun i => ⟨sv5 n i, sh5 n w a b B0 B1 B2 B3 B6 B7 B8 B9 B10 B11 B12 B13 B14 B15 B16 B17 B18 B19 B20 B21 B22 B23 i⟩) n (fun i hi ih => ?_) ?_
  · have h0 : ((i : Int) < (n : Int)) = True := eq_true (by omega)
    have hwi : IntKind.i64.wrap ((i : Int) + 1) = ((i + 1 : Nat) : Int) := by rw [wrap_i64 (by omega) (by omega)]; omega
    have g1 := scs_get' n w (i := i) hi
    have g2 := scs_get' n a (i := i) hi
    have g3 := scs_get' n b (i := i) hi
    have hv : linv (w i) < 115792089237316195423570985008687907853269984665640564039457584007913129639936 := Nat.lt_trans (linv_lt _) ell_lt
    have s1 : sm (fun j => w j * a j) (i + 1) = (sm (fun j => w j * a j) i + w i * a i % ell) % ell := (add_r _ _).symm
    have s2 : sm (fun j => linv (w j) * b j) (i + 1) = (sm (fun j => linv (w j) * b j) i + linv (w i) * b i % ell) % ell := (add_r _ _).symm
    unfold sv5 sh5 at *
    refine run_loop_eq v5_40.eq_1 ?_
    refine run_driveS 80 ?_
    simp only [go_sem, Nat.reduceAdd, Nat.reduceSub, Nat.reduceLeDiff, Nat.reduceMul, Nat.reduceLT, Nat.reduceEqDiff, Int.reduceLT, Int.reduceLE, Int.reduceAdd, Int.reduceSub, Int.reduceMul, Int.reduceToNat, reduceIte, reduceCtorEq, Nat.reduceBEq, v5_35, v5_38, h0]
    refine run_drw (by kernel_rfl) ?_
    refine drun_drive 40 (p := (_, _)) ?_
    simp only [go_sem, Nat.reduceAdd, Nat.reduceSub, Nat.reduceLeDiff, Nat.reduceMul, Nat.reduceLT, Nat.reduceEqDiff, Int.reduceLT, Int.reduceLE, Int.reduceAdd, Int.reduceSub, Int.reduceMul, Int.reduceToNat, reduceIte, reduceCtorEq, Nat.reduceBEq, v5_36, h0, g1, g2, g3, restore, Option.join_some, maskH, List.mapIdx_cons, List.mapIdx_nil, List.contains_cons, List.contains_nil, Bool.or_false, Bool.or_true, Bool.false_or, Bool.true_or, Nat.reduceBEq]
    refine drun_call' ?_
    simp only [go_sem, Nat.reduceAdd, Nat.reduceSub, Nat.reduceLeDiff, Nat.reduceMul, Nat.reduceLT, Nat.reduceEqDiff, Int.reduceLT, Int.reduceLE, Int.reduceAdd, Int.reduceSub, Int.reduceMul, Int.reduceToNat, reduceIte, reduceCtorEq, Nat.reduceBEq, calV, restore, Option.join_some, maskH, List.mapIdx_cons, List.mapIdx_nil, List.contains_cons, List.contains_nil, Bool.or_false, Bool.or_true, Bool.false_or, Bool.true_or, Nat.reduceBEq]
    refine mul' hG _ _ (hw i) (ha i) ?_
    refine drun_drive 40 (p := (_, _)) ?_
    simp only [go_sem, Nat.reduceAdd, Nat.reduceSub, Nat.reduceLeDiff, Nat.reduceMul, Nat.reduceLT, Nat.reduceEqDiff, Int.reduceLT, Int.reduceLE, Int.reduceAdd, Int.reduceSub, Int.reduceMul, Int.reduceToNat, reduceIte, reduceCtorEq, Nat.reduceBEq, restore, Option.join_some, maskH, List.mapIdx_cons, List.mapIdx_nil, List.contains_cons, List.contains_nil, Bool.or_false, Bool.or_true, Bool.false_or, Bool.true_or, Nat.reduceBEq]
    refine drun_call' ?_
    simp only [go_sem, Nat.reduceAdd, Nat.reduceSub, Nat.reduceLeDiff, Nat.reduceMul, Nat.reduceLT, Nat.reduceEqDiff, Int.reduceLT, Int.reduceLE, Int.reduceAdd, Int.reduceSub, Int.reduceMul, Int.reduceToNat, reduceIte, reduceCtorEq, Nat.reduceBEq, calV, restore, Option.join_some, maskH, List.mapIdx_cons, List.mapIdx_nil, List.contains_cons, List.contains_nil, Bool.or_false, Bool.or_true, Bool.false_or, Bool.true_or, Nat.reduceBEq]
    refine add_ hG _ _ (Nat.lt_trans (sm_lt _ _) hl) (mod_lt _) ?_
    refine drun_drive 40 (p := (_, _)) ?_
    simp only [go_sem, Nat.reduceAdd, Nat.reduceSub, Nat.reduceLeDiff, Nat.reduceMul, Nat.reduceLT, Nat.reduceEqDiff, Int.reduceLT, Int.reduceLE, Int.reduceAdd, Int.reduceSub, Int.reduceMul, Int.reduceToNat, reduceIte, reduceCtorEq, Nat.reduceBEq, restore, Option.join_some, maskH, List.mapIdx_cons, List.mapIdx_nil, List.contains_cons, List.contains_nil, Bool.or_false, Bool.or_true, Bool.false_or, Bool.true_or, Nat.reduceBEq]
    refine drun_end ?_
    refine run_driveS 80 ?_
    simp only [go_sem, Nat.reduceAdd, Nat.reduceSub, Nat.reduceLeDiff, Nat.reduceMul, Nat.reduceLT, Nat.reduceEqDiff, Int.reduceLT, Int.reduceLE, Int.reduceAdd, Int.reduceSub, Int.reduceMul, Int.reduceToNat, reduceIte, reduceCtorEq, Nat.reduceBEq]
    refine run_drw (by kernel_rfl) ?_
    refine drun_drive 40 (p := (_, _)) ?_
    simp only [go_sem, Nat.reduceAdd, Nat.reduceSub, Nat.reduceLeDiff, Nat.reduceMul, Nat.reduceLT, Nat.reduceEqDiff, Int.reduceLT, Int.reduceLE, Int.reduceAdd, Int.reduceSub, Int.reduceMul, Int.reduceToNat, reduceIte, reduceCtorEq, Nat.reduceBEq, v5_37, h0, g1, g3, restore, Option.join_some, maskH, List.mapIdx_cons, List.mapIdx_nil, List.contains_cons, List.contains_nil, Bool.or_false, Bool.or_true, Bool.false_or, Bool.true_or, Nat.reduceBEq]
    refine drun_call' ?_
    simp only [go_sem, Nat.reduceAdd, Nat.reduceSub, Nat.reduceLeDiff, Nat.reduceMul, Nat.reduceLT, Nat.reduceEqDiff, Int.reduceLT, Int.reduceLE, Int.reduceAdd, Int.reduceSub, Int.reduceMul, Int.reduceToNat, reduceIte, reduceCtorEq, Nat.reduceBEq, calV, restore, Option.join_some, maskH, List.mapIdx_cons, List.mapIdx_nil, List.contains_cons, List.contains_nil, Bool.or_false, Bool.or_true, Bool.false_or, Bool.true_or, Nat.reduceBEq]
    refine invert' hG _ (hw i) ?_
    refine drun_drive 40 (p := (_, _)) ?_
    simp only [go_sem, Nat.reduceAdd, Nat.reduceSub, Nat.reduceLeDiff, Nat.reduceMul, Nat.reduceLT, Nat.reduceEqDiff, Int.reduceLT, Int.reduceLE, Int.reduceAdd, Int.reduceSub, Int.reduceMul, Int.reduceToNat, reduceIte, reduceCtorEq, Nat.reduceBEq, restore, Option.join_some, maskH, List.mapIdx_cons, List.mapIdx_nil, List.contains_cons, List.contains_nil, Bool.or_false, Bool.or_true, Bool.false_or, Bool.true_or, Nat.reduceBEq]
    refine drun_call' ?_
    simp only [go_sem, Nat.reduceAdd, Nat.reduceSub, Nat.reduceLeDiff, Nat.reduceMul, Nat.reduceLT, Nat.reduceEqDiff, Int.reduceLT, Int.reduceLE, Int.reduceAdd, Int.reduceSub, Int.reduceMul, Int.reduceToNat, reduceIte, reduceCtorEq, Nat.reduceBEq, calV, restore, Option.join_some, maskH, List.mapIdx_cons, List.mapIdx_nil, List.contains_cons, List.contains_nil, Bool.or_false, Bool.or_true, Bool.false_or, Bool.true_or, Nat.reduceBEq]
    refine mul' hG _ _ hv (hb i) ?_
    refine drun_drive 40 (p := (_, _)) ?_
    simp only [go_sem, Nat.reduceAdd, Nat.reduceSub, Nat.reduceLeDiff, Nat.reduceMul, Nat.reduceLT, Nat.reduceEqDiff, Int.reduceLT, Int.reduceLE, Int.reduceAdd, Int.reduceSub, Int.reduceMul, Int.reduceToNat, reduceIte, reduceCtorEq, Nat.reduceBEq, restore, Option.join_some, maskH, List.mapIdx_cons, List.mapIdx_nil, List.contains_cons, List.contains_nil, Bool.or_false, Bool.or_true, Bool.false_or, Bool.true_or, Nat.reduceBEq]
    refine drun_call' ?_
    simp only [go_sem, Nat.reduceAdd, Nat.reduceSub, Nat.reduceLeDiff, Nat.reduceMul, Nat.reduceLT, Nat.reduceEqDiff, Int.reduceLT, Int.reduceLE, Int.reduceAdd, Int.reduceSub, Int.reduceMul, Int.reduceToNat, reduceIte, reduceCtorEq, Nat.reduceBEq, calV, restore, Option.join_some, maskH, List.mapIdx_cons, List.mapIdx_nil, List.contains_cons, List.contains_nil, Bool.or_false, Bool.or_true, Bool.false_or, Bool.true_or, Nat.reduceBEq]
    refine add_ hG _ _ (Nat.lt_trans (sm_lt _ _) hl) (mod_lt _) ?_
    refine drun_drive 40 (p := (_, _)) ?_
    simp only [go_sem, Nat.reduceAdd, Nat.reduceSub, Nat.reduceLeDiff, Nat.reduceMul, Nat.reduceLT, Nat.reduceEqDiff, Int.reduceLT, Int.reduceLE, Int.reduceAdd, Int.reduceSub, Int.reduceMul, Int.reduceToNat, reduceIte, reduceCtorEq, Nat.reduceBEq, restore, Option.join_some, maskH, List.mapIdx_cons, List.mapIdx_nil, List.contains_cons, List.contains_nil, Bool.or_false, Bool.or_true, Bool.false_or, Bool.true_or, Nat.reduceBEq]
    refine drun_end ?_
    refine run_driveS 80 ?_
    simp only [go_sem, Nat.reduceAdd, Nat.reduceSub, Nat.reduceLeDiff, Nat.reduceMul, Nat.reduceLT, Nat.reduceEqDiff, Int.reduceLT, Int.reduceLE, Int.reduceAdd, Int.reduceSub, Int.reduceMul, Int.reduceToNat, reduceIte, reduceCtorEq, Nat.reduceBEq, v5_39, hwi]
    rw [s1, s2] at ih
    refine run_tmps ?_ ih
    simp only [go_sem, Nat.reduceAdd, Nat.reduceSub, Nat.reduceLeDiff, Nat.reduceMul, Nat.reduceLT, Nat.reduceEqDiff, Int.reduceLT, Int.reduceLE, Int.reduceAdd, Int.reduceSub, Int.reduceMul, Int.reduceToNat, reduceIte, reduceCtorEq, Nat.reduceBEq, forg, true_or, or_true]
  · unfold sv5 sh5 at *
    have h0 : ((n : Int) < (n : Int)) = False := eq_false (by omega)
    refine run_loop_eq v5_40.eq_1 ?_
    refine run_driveS 80 ?_
    simp only [go_sem, Nat.reduceAdd, Nat.reduceSub, Nat.reduceLeDiff, Nat.reduceMul, Nat.reduceLT, Nat.reduceEqDiff, Int.reduceLT, Int.reduceLE, Int.reduceAdd, Int.reduceSub, Int.reduceMul, Int.reduceToNat, reduceIte, reduceCtorEq, Nat.reduceBEq, v5_35, h0]
    refine run_exit rfl ?_
    refine run_tmps ?_ hK
    simp only [go_sem, Nat.reduceAdd, Nat.reduceSub, Nat.reduceLeDiff, Nat.reduceMul, Nat.reduceLT, Nat.reduceEqDiff, Int.reduceLT, Int.reduceLE, Int.reduceAdd, Int.reduceSub, Int.reduceMul, Int.reduceToNat, reduceIte, reduceCtorEq, Nat.reduceBEq, forg, true_or, or_true]
end
theorem same_ (hG : G 0 = tbl) (A B : Nat) (hA : A < 115792089237316195423570985008687907853269984665640564039457584007913129639936) (hB : B < 115792089237316195423570985008687907853269984665640564039457584007913129639936) {h : Heap} {R : V → Heap → Prop} (hQ : R (.bool (decide (A % ell = B % ell))) h) : VCall Tryd.prog G 31 [lw A, lw B] h R := by
  refine vcall_plain (Q := fun v => v = .bool (decide (A % ell = B % ell))) ?_ (fun g => by simp only [rens, lw_plain, ew_plain, ren]) (fun v g hv => by subst hv; exact rfl) (fun v hv => by subst hv; exact hQ)
  refine vcall_body Tryd.func31 nm31 code31 nt31 ?_
  have q := lc_eqL (mod_lt A) (mod_lt B)
  refine run_driveS 80 ?_
  simp only [go_sem, Nat.reduceAdd, Nat.reduceSub, Nat.reduceLeDiff, Nat.reduceMul, Nat.reduceLT, Nat.reduceEqDiff, Int.reduceLT, Int.reduceLE, Int.reduceAdd, Int.reduceSub, Int.reduceMul, Int.reduceToNat, reduceIte, reduceCtorEq, Nat.reduceBEq, v31, v31_0]
  refine run_drw (by kernel_rfl) ?_
  refine drun_drive 40 (p := (_, _)) ?_
  simp only [go_sem, Nat.reduceAdd, Nat.reduceSub, Nat.reduceLeDiff, Nat.reduceMul, Nat.reduceLT, Nat.reduceEqDiff, Int.reduceLT, Int.reduceLE, Int.reduceAdd, Int.reduceSub, Int.reduceMul, Int.reduceToNat, reduceIte, reduceCtorEq, Nat.reduceBEq, v31_1, restore, Option.join_some, maskH, List.mapIdx_cons, List.mapIdx_nil, List.contains_cons, List.contains_nil, Bool.or_false, Bool.or_true, Bool.false_or, Bool.true_or, Nat.reduceBEq]
  refine drun_call' ?_
  simp only [go_sem, Nat.reduceAdd, Nat.reduceSub, Nat.reduceLeDiff, Nat.reduceMul, Nat.reduceLT, Nat.reduceEqDiff, Int.reduceLT, Int.reduceLE, Int.reduceAdd, Int.reduceSub, Int.reduceMul, Int.reduceToNat, reduceIte, reduceCtorEq, Nat.reduceBEq, calV, restore, Option.join_some, maskH, List.mapIdx_cons, List.mapIdx_nil, List.contains_cons, List.contains_nil, Bool.or_false, Bool.or_true, Bool.false_or, Bool.true_or, Nat.reduceBEq]
  refine least' hG A hA ?_
  refine drun_drive 40 (p := (_, _)) ?_
  simp only [go_sem, Nat.reduceAdd, Nat.reduceSub, Nat.reduceLeDiff, Nat.reduceMul, Nat.reduceLT, Nat.reduceEqDiff, Int.reduceLT, Int.reduceLE, Int.reduceAdd, Int.reduceSub, Int.reduceMul, Int.reduceToNat, reduceIte, reduceCtorEq, Nat.reduceBEq, restore, Option.join_some, maskH, List.mapIdx_cons, List.mapIdx_nil, List.contains_cons, List.contains_nil, Bool.or_false, Bool.or_true, Bool.false_or, Bool.true_or, Nat.reduceBEq]
  refine drun_call' ?_
  simp only [go_sem, Nat.reduceAdd, Nat.reduceSub, Nat.reduceLeDiff, Nat.reduceMul, Nat.reduceLT, Nat.reduceEqDiff, Int.reduceLT, Int.reduceLE, Int.reduceAdd, Int.reduceSub, Int.reduceMul, Int.reduceToNat, reduceIte, reduceCtorEq, Nat.reduceBEq, calV, restore, Option.join_some, maskH, List.mapIdx_cons, List.mapIdx_nil, List.contains_cons, List.contains_nil, Bool.or_false, Bool.or_true, Bool.false_or, Bool.true_or, Nat.reduceBEq]
  refine least' hG B hB ?_
  refine drun_drive 40 (p := (_, _)) ?_
  simp only [go_sem, Nat.reduceAdd, Nat.reduceSub, Nat.reduceLeDiff, Nat.reduceMul, Nat.reduceLT, Nat.reduceEqDiff, Int.reduceLT, Int.reduceLE, Int.reduceAdd, Int.reduceSub, Int.reduceMul, Int.reduceToNat, reduceIte, reduceCtorEq, Nat.reduceBEq, q, restore, Option.join_some, maskH, List.mapIdx_cons, List.mapIdx_nil, List.contains_cons, List.contains_nil, Bool.or_false, Bool.or_true, Bool.false_or, Bool.true_or, Nat.reduceBEq]
  refine drun_end ?_
  refine run_driveS 80 ?_
  simp only [go_sem, Nat.reduceAdd, Nat.reduceSub, Nat.reduceLeDiff, Nat.reduceMul, Nat.reduceLT, Nat.reduceEqDiff, Int.reduceLT, Int.reduceLE, Int.reduceAdd, Int.reduceSub, Int.reduceMul, Int.reduceToNat, reduceIte, reduceCtorEq, Nat.reduceBEq]
  refine run_ret_drop Tryd.func31 res31 [] (.bool (decide (A % ell = B % ell))) [] rfl (by simp) trivial (by simp [uniq]) ?_ ⟨rfl, rfl⟩
  simp only [go_sem, Nat.reduceAdd, Nat.reduceSub, Nat.reduceLeDiff, Nat.reduceMul, Nat.reduceLT, Nat.reduceEqDiff, Int.reduceLT, Int.reduceLE, Int.reduceAdd, Int.reduceSub, Int.reduceMul, Int.reduceToNat, reduceIte, reduceCtorEq, Nat.reduceBEq, rr31, lw_plain, ew_plain, ren]
end Go.Vs.Tryd
namespace Go.Vs.Tryd
theorem fe_fo (a b us : Nat → Nat) (ha : ∀ i, a i % ell = linv (us i)) (hb : ∀ i, b i % ell = us i % ell) (N t : Nat) (ht : t < N) (f : Nat → Nat) : fe (linv (us t)) (us t) (2 ^ (N - (t + 1))) f = fo a b N (N - (t + 1)) f := by
  funext j
  unfold fe fo
  rw [show N - 1 - (N - (t + 1)) = t by omega, add_l, add_r, Nat.add_comm (2 ^ (N - (t + 1))) j, ← add_l, ← add_r]
  conv => rhs; rw [← add_l, ← add_r]
  congr 2
  · rw [← ha t, Nat.mul_mod_mod]
  · rw [← Nat.mul_mod_mod, ← hb t, Nat.mul_mod_mod]
theorem fe_fo' (a b us : Nat → Nat) (ha : ∀ i, a i % ell = linv (us i)) (hb : ∀ i, b i % ell = us i % ell) (N t : Nat) (ht : t < N) (f : Nat → Nat) : fe (us t) (linv (us t)) (2 ^ (N - (t + 1))) f = fo b a N (N - (t + 1)) f := by
  funext j
  unfold fe fo
  rw [show N - 1 - (N - (t + 1)) = t by omega, add_l, add_r, Nat.add_comm (2 ^ (N - (t + 1))) j, ← add_l, ← add_r]
  conv => rhs; rw [← add_l, ← add_r]
  congr 2
  · rw [← Nat.mul_mod_mod, ← hb t, Nat.mul_mod_mod]
  · rw [← ha t, Nat.mul_mod_mod]
theorem gl_Gs (a b us g : Nat → Nat) (ha : ∀ i, a i % ell = linv (us i)) (hb : ∀ i, b i % ell = us i % ell) (N : Nat) : ∀ t, t ≤ N → gl a b N (N - t) (Gs us g N t) = gl a b N N g
  | 0, _ => rfl
  | t + 1, h => by
    rw [← gl_Gs a b us g ha hb N t (by omega), Gs, fe_fo a b us ha hb N t (by omega)]
    rw [show N - t = N - (t + 1) + 1 by omega, gl]
theorem gl_Hs (a b us g : Nat → Nat) (ha : ∀ i, a i % ell = linv (us i)) (hb : ∀ i, b i % ell = us i % ell) (N : Nat) : ∀ t, t ≤ N → gl b a N (N - t) (Hs us g N t) = gl b a N N g
  | 0, _ => rfl
  | t + 1, h => by
    rw [← gl_Hs a b us g ha hb N t (by omega), Hs, fe_fo' a b us ha hb N t (by omega)]
    rw [show N - t = N - (t + 1) + 1 by omega, gl]
theorem Gs_end (us g : Nat → Nat) (N : Nat) : Gs us g N N 0 % ell = sm (fun j => wf us N j * g j) (2 ^ N) := by
  have h := gl_Gs (fun i => linv (us i % ell)) (fun i => us i % ell) us g (fun i => by rw [linv_mod', Nat.mod_eq_of_lt (linv_lt _)]) (fun i => Nat.mod_mod _ _) N N (Nat.le_refl _)
  rw [Nat.sub_self, gl] at h
  rw [h, gl_sum]
  exact sm_congr fun j hj => by rw [wf_wt us N j hj]
theorem Hs_end (us h : Nat → Nat) (N : Nat) (hz : ∀ j, j < N → us j % ell ≠ 0) : Hs us h N N 0 % ell = sm (fun j => linv (wf us N j) * h j) (2 ^ N) := by
  have e := gl_Hs (fun i => linv (us i % ell)) (fun i => us i % ell) us h (fun i => by rw [linv_mod', Nat.mod_eq_of_lt (linv_lt _)]) (fun i => Nat.mod_mod _ _) N N (Nat.le_refl _)
  rw [Nat.sub_self, gl] at e
  rw [e, gl_sum]
  refine sm_congr fun j hj => ?_
  rw [wf_wt us N j hj]
  rw [wt_linv (fun i => linv (us i % ell)) (fun i => us i % ell) (fun i => us i % ell) (fun i => linv (us i % ell)) N N (fun i hi => ⟨?_, ?_⟩) j]
  · rw [linv_mod', linv_linv (hz _ (by omega)), Nat.mod_mod]
  · exact Nat.mod_eq_of_lt (linv_lt _)
end Go.Vs.Tryd
namespace Go.Vs.Tryd
open Go.Proofs
variable {G : Nat → List V}
set_option linter.unusedSimpArgs false
attribute [local go_sem] lenO_nils lenO_sl sliceAtV Int.sub_zero List.length_append List.all_append ge_iff_le gt_iff_lt Int.natCast_nonneg Int.toNat_natCast Nat.mul_one b_and_ll b_shr_ll b_mul_ll b_add_ll b_or_ll b_shl_ll pick_ll pick_lc pick_bb driveS stopV Option.isSome_some Option.isSome_none Kind.m Kind.w Kind.g look_ro look_rw look_grow drive stepV exo expo evs fillV isNil nilKind eqV eqL optA optM sliceAtV ev kn ldc stc splice appV srcV lenV setd wantV exitV rvs rv one List.length_cons List.length_nil List.cons_append List.nil_append List.append_nil List.replicate List.getD_cons_zero List.getD_cons_succ List.set_cons_zero List.set_cons_succ List.getElem?_cons_zero List.getElem?_cons_succ List.getElem?_nil List.take_succ_cons List.take_zero List.take_nil List.drop_succ_cons List.drop_zero List.drop_nil List.all_cons List.all_nil List.any_cons List.any_nil Bool.and_true Bool.true_and Bool.and_self Option.map_some Option.map_none Option.bind_some Option.some.injEq Nat.add_zero Nat.zero_add Int.toNat_zero Int.toNat_one Int.zero_add Int.add_zero if_true if_false ite_true ite_false and_true true_and and_self ne_eq not_false_eq_true not_true_eq_false decide_true decide_false Bool.false_eq_true Bool.not_true Bool.not_false beq_self_eq_true BEq.rfl Bool.not_eq_true Nat.le_refl Int.le_refl Nat.zero_le List.foldl List.map_cons List.map_nil Prod.mk.injEq Int.cast_ofNat_Int Int.zero_le_ofNat b_add_cc b_add_cl b_add_lc b_mul_cc b_mul_cl b_mul_lc b_sub_cc b_sub_cl b_sub_lc b_and_cc b_and_cl b_and_lc b_or_cc b_or_cl b_or_lc b_xor_cc b_xor_cl b_xor_lc b_andNot_cc b_andNot_cl b_andNot_lc b_shr_cc b_shr_cl b_shr_lc b_shl_cc b_shl_cl b_shl_lc b_lss b_leq b_gtr b_geq b_add_i b_sub_i b_mul_i beq_cc beq_cl beq_lc beq_ll b_quo_i b_rem_i neg_u64 wrap_i64 driveD stepD idsAt idOf maskH_nil restore_nil restore_mask List.filterMap_nil List.filterMap_cons VOp.looks VOp.makes exA cells_agg cells_int cells_bool cells_str cells_nilp cells_ptr cells_glob cells_nils cells_sl cells_nilf cells_fn cells_nili cells_ifc known_agg known_tup known_int known_bool known_str known_nilp known_ptr known_glob known_nils known_sl known_nilf known_fn known_nili known_ifc known_unk one_agg one_tup one_int one_bool one_str one_nilp one_ptr one_glob one_nils one_sl one_nilf one_fn one_nili one_ifc asK_int asN_int asB_bool asS_str asG_agg asT_tup true_or or_true false_or or_false
attribute [local go_sem ↓] lc_len lc_take lc_drop lc_known lc_one lc_rens lc_cells lw_known lw_agg lw_asG scs_known scs_one scs_len lc_take_add lc_drop_add lenO_dv dv_known dv_one dv_ren
attribute [local go_sem] lt_nat lt_natl lt_lnat lt_ll bool_tf bool_ft yld_known ivl_known ivl_one'
set_option maxRecDepth 100000
set_option maxHeartbeats 2000000
theorem fill_at (f : Nat → Nat) (hf : ∀ j, f j < 115792089237316195423570985008687907853269984665640564039457584007913129639936) (N m n : Nat) (z : Bool) (ho : Ok N m z) (hn0 : 0 < n) (hn : n ≤ 100) (hN : N < 9223372036854775808) (p : Nat) {h : Heap} (hp : h[p]? = some (ivb f N z)) {R : V → Heap → Prop} (hR : R (.sl h.length 0 n (.grow 4)) (h ++ [some ⟨.grow, scs n (fl f N)⟩])) : VCall Tryd.prog G 25 [ivl p N m z, .int .i64 n] h R := by
  refine vcall_at (fill_ f hf N n hn0 hn hN (ivl 0 N m z) (ivb f N z) (In_iv ho) (fun v k => v = .sl 1 0 n (.grow 4) ∧ k = [ivb f N z, some ⟨.grow, scs n (fl f N)⟩]) ⟨rfl, rfl⟩) [p] ?_ (hfit_cons hp bfit_ivb hfit_nil) ?_ ?_ ?_
  · intro i hi
    obtain rfl : i = p := by simpa using hi
    exact (List.getElem?_eq_some_iff.1 hp).1
  · exact uniq_nodup (by simp)
  · simp only [rens, ren, ivl_ren, gmap]
  · rintro v k ⟨rfl, rfl⟩
    rw [puts_ro (by simp [wrB_ivb]) rfl (by simp)]
    simpa [ren, gmap, renB, scs_rens] using hR
theorem line_of_at (f : Nat → Nat) (n : Nat) (hn0 : 0 < n) (hn : n ≤ 100) (c : Cap) (p : Nat) {h : Heap} {kd : Kind} (hk : kd.m = true) (hp : h[p]? = some (some ⟨kd, scs n f⟩)) {R : V → Heap → Prop} (hR : R (.sl h.length 0 n (.grow 4)) (h ++ [some ⟨.grow, scs n f⟩])) : VCall Tryd.prog G 26 [.sl p 0 n c] h R := by
  refine vcall_at (line_of_ f n hn0 hn c (fun v k => v = .sl 1 0 n (.grow 4) ∧ k = [some ⟨.ro, scs n f⟩, some ⟨.grow, scs n f⟩]) ⟨rfl, rfl⟩) [p] ?_ (hfit_cons hp (bfit_same (scs_rens ..) hk) hfit_nil) ?_ ?_ ?_
  · intro i hi
    obtain rfl : i = p := by simpa using hi
    exact (List.getElem?_eq_some_iff.1 hp).1
  · exact uniq_nodup (by simp)
  · simp only [rens, ren, gmap]
  · rintro v k ⟨rfl, rfl⟩
    rw [puts_ro (by simp [wrB]) rfl (by simp)]
    simpa [ren, gmap, renB, scs_rens] using hR
theorem tm5_fit (f : Nat → Nat) (hf : ∀ j, j < 12 → f j = j) : fit f tm5 tm5 := by
  unfold tm5
  simp only [go_sem, Nat.reduceAdd, Nat.reduceSub, Nat.reduceLeDiff, Nat.reduceMul, Nat.reduceLT, Nat.reduceEqDiff, Int.reduceLT, Int.reduceLE, Int.reduceAdd, Int.reduceSub, Int.reduceMul, Int.reduceToNat, reduceIte, reduceCtorEq, Nat.reduceBEq, fit, ren, hf 9 (by decide), hf 10 (by decide), true_or, or_true]
theorem A5_fit {us Lf Rf : Nat → Nat} {N P Q' : Nat} (f : Nat → Nat) (t i j : Nat) : bfit f (A5 us Lf Rf N P Q' t i j) (A5 us Lf Rf N P Q' t (f i) (f j)) := by
  cases t with
  | zero => exact bfit_g rfl
  | succ s => exact bfit_st2 rfl rfl
theorem Z5_fit {us g : Nat → Nat} {N : Nat} (f : Nat → Nat) (t : Nat) : bfit f (Z5 us g N t) (Z5 us g N t) := by
  cases t with
  | zero => trivial
  | succ s => exact bfit_g (scs_rens ..)
theorem W5_fit {us g : Nat → Nat} {N : Nat} (f : Nat → Nat) (t : Nat) : bfit f (W5 us g N t) (W5 us g N t) := by
  cases t with
  | zero => trivial
  | succ s => exact bfit_g (scs_rens ..)
theorem bfit_st3 {f : Nat → Nat} {P Q i j i' j' n : Nat} {c d : Cap} (hi : f i = i') (hj : f j = j') : bfit f (some ⟨.ro, lc P ++ (lc Q ++ [.sl i 0 n c, .sl j 0 n d])⟩) (some ⟨.rw, lc P ++ (lc Q ++ [.sl i' 0 n c, .sl j' 0 n d])⟩) := ⟨.inr ⟨rfl, rfl⟩, (bfit_st2 hi hj).2⟩
theorem bfit_x3 {f : Nat → Nat} {i j i' j' n a b : Nat} (hi : f i = i') (hj : f j = j') : bfit f (some ⟨.ro, dv i n :: dv j n :: (lc a ++ lc b)⟩) (some ⟨.rw, dv i' n :: dv j' n :: (lc a ++ lc b)⟩) := ⟨.inr ⟨rfl, rfl⟩, (bfit_x (by rw [dv_ren, hi]) (by rw [dv_ren, hj])).2⟩
theorem bfit_u3 {f : Nat → Nat} {i i' n : Nat} (hi : f i = i') : bfit f (some ⟨.ro, [dv i n]⟩) (some ⟨.rw, [dv i' n]⟩) := ⟨.inr ⟨rfl, rfl⟩, (bfit_u (by rw [dv_ren, hi])).2⟩
theorem enters60 (xs : Array Value) (w : World) : (callFunc 60 xs).run Tryd.prog w = .ok (.enter 60 xs) w := by
  have h1 : Tryd.f60.name ≠ "runtime.NumGoroutine" := by have := nm60; simpa using this
  obtain ⟨c, hb, _⟩ := Option.bind_eq_some_iff.1 code60
  simp [callFunc, Tryd.func60, h1, hb]
theorem law5 (hG : G 0 = tbl) (g h' u : Nat → Nat) (hg : ∀ j, g j < 115792089237316195423570985008687907853269984665640564039457584007913129639936) (hh : ∀ j, h' j < 115792089237316195423570985008687907853269984665640564039457584007913129639936) (hu : ∀ j, u j < 115792089237316195423570985008687907853269984665640564039457584007913129639936) (nG mG nH mH nU mU : Nat) (zG zH zU : Bool) (oG : Ok nG mG zG) (oH : Ok nH mH zH) (oU : Ok nU mU zU) (lG : nG < 9223372036854775808) (lH : nH < 9223372036854775808) (lU : nU < 9223372036854775808) :
    VCall Tryd.prog G 5 [ivl 0 nG mG zG, ivl 1 nH mH zH, ivl 2 nU mU zU] [ivb g nG zG, ivb h' nH zH, ivb u nU zU] fun v k => v = .bool true ∧ k = [ivb g nG zG, ivb h' nH zH, ivb u nU zU] := by
  refine vcall_body Tryd.func5 nm5 code5 nt5 ?_
  refine run_driveS 80 ?_
  simp only [go_sem, Nat.reduceAdd, Nat.reduceSub, Nat.reduceLeDiff, Nat.reduceMul, Nat.reduceLT, Nat.reduceEqDiff, Int.reduceLT, Int.reduceLE, Int.reduceAdd, Int.reduceSub, Int.reduceMul, Int.reduceToNat, reduceIte, reduceCtorEq, Nat.reduceBEq, v5, v5_0, v5_1, v5_2, v5_3, v5_12]
  refine run_rename [0, 1, 2, 3] rfl (by simp) ?_ ?_ ?_ (keep_loop u nU mU zU (ivl 0 nG mG zG) (ivl 1 nH mH zH) (ivb g nG zG) (ivb h' nH zH) hG hu oU lU ?_ ?_ (fun f => bfit_ivb) (fun f => bfit_ivb) (wrB_ivb ..) (wrB_ivb ..) (fun k us i hk hus hz => ?_) nU 0 0 (fun _ => 0) (by omega) (by omega) (fun _ => by decide) (fun j hj => by omega))
  · unfold kh
    exact hfit_cons rfl bfit_ivb (hfit_cons rfl bfit_ivb (hfit_cons rfl bfit_ivb (hfit_cons_none hfit_nil)))
  · exact uniq_nodup (by decide)
  · unfold kv
    rw [dv_zero']
    simp only [go_sem, Nat.reduceAdd, Nat.reduceSub, Nat.reduceLeDiff, Nat.reduceMul, Nat.reduceLT, Nat.reduceEqDiff, Int.reduceLT, Int.reduceLE, Int.reduceAdd, Int.reduceSub, Int.reduceMul, Int.reduceToNat, reduceIte, reduceCtorEq, Nat.reduceBEq, hfit, lc_fit, scs_fit, fit, ren, gmap, lw_plain, true_or, or_true, ivl_ren]
  · exact ⟨ivl_known .., ivl_one' .., fun f hf => by rw [ivl_ren, hf 0 (by decide)]⟩
  · exact ⟨ivl_known .., ivl_one' .., fun f hf => by rw [ivl_ren, hf 1 (by decide)]⟩
  unfold kv kh
  have hp0 : 0 < 2 ^ k := Nat.two_pow_pos k
  have hp : 2 ^ k ≤ 2 ^ 5 := Nat.pow_le_pow_right (by decide) hk
  have hsh := shl_one k (by omega)
  have hm1 : ((32 : Int) * (k : Int) ≤ 281474976710656) = True := eq_true (by omega)
  have hm2 : ((k : Int) ≤ 9223372036854775807) = True := eq_true (by omega)
  refine run_driveS 80 ?_
  simp only [go_sem, Nat.reduceAdd, Nat.reduceSub, Nat.reduceLeDiff, Nat.reduceMul, Nat.reduceLT, Nat.reduceEqDiff, Int.reduceLT, Int.reduceLE, Int.reduceAdd, Int.reduceSub, Int.reduceMul, Int.reduceToNat, reduceIte, reduceCtorEq, Nat.reduceBEq, v5_13, v5_14, hsh]
  refine run_call' rfl ?_
  simp only [go_sem, Nat.reduceAdd, Nat.reduceSub, Nat.reduceLeDiff, Nat.reduceMul, Nat.reduceLT, Nat.reduceEqDiff, Int.reduceLT, Int.reduceLE, Int.reduceAdd, Int.reduceSub, Int.reduceMul, Int.reduceToNat, reduceIte, reduceCtorEq, Nat.reduceBEq, calV]
  refine fill_at g hg nG mG (2 ^ k) zG oG hp0 (by omega) lG 0 rfl ?_
  refine run_driveS 80 ?_
  simp only [go_sem, Nat.reduceAdd, Nat.reduceSub, Nat.reduceLeDiff, Nat.reduceMul, Nat.reduceLT, Nat.reduceEqDiff, Int.reduceLT, Int.reduceLE, Int.reduceAdd, Int.reduceSub, Int.reduceMul, Int.reduceToNat, reduceIte, reduceCtorEq, Nat.reduceBEq, v5_15]
  refine run_call' rfl ?_
  simp only [go_sem, Nat.reduceAdd, Nat.reduceSub, Nat.reduceLeDiff, Nat.reduceMul, Nat.reduceLT, Nat.reduceEqDiff, Int.reduceLT, Int.reduceLE, Int.reduceAdd, Int.reduceSub, Int.reduceMul, Int.reduceToNat, reduceIte, reduceCtorEq, Nat.reduceBEq, calV]
  refine fill_at h' hh nH mH (2 ^ k) zH oH hp0 (by omega) lH 1 rfl ?_
  refine run_driveS 80 ?_
  simp only [go_sem, Nat.reduceAdd, Nat.reduceSub, Nat.reduceLeDiff, Nat.reduceMul, Nat.reduceLT, Nat.reduceEqDiff, Int.reduceLT, Int.reduceLE, Int.reduceAdd, Int.reduceSub, Int.reduceMul, Int.reduceToNat, reduceIte, reduceCtorEq, Nat.reduceBEq]
  refine run_drw (by kernel_rfl) ?_
  refine drun_drive 40 (p := (_, _)) ?_
  simp only [go_sem, Nat.reduceAdd, Nat.reduceSub, Nat.reduceLeDiff, Nat.reduceMul, Nat.reduceLT, Nat.reduceEqDiff, Int.reduceLT, Int.reduceLE, Int.reduceAdd, Int.reduceSub, Int.reduceMul, Int.reduceToNat, reduceIte, reduceCtorEq, Nat.reduceBEq, v5_16, scs_zero, hm1, hm2, restore, Option.join_some, maskH, List.mapIdx_cons, List.mapIdx_nil, List.contains_cons, List.contains_nil, Bool.or_false, Bool.or_true, Bool.false_or, Bool.true_or, Nat.reduceBEq]
  refine drun_end ?_
  refine run_driveS 80 ?_
  simp only [go_sem, Nat.reduceAdd, Nat.reduceSub, Nat.reduceLeDiff, Nat.reduceMul, Nat.reduceLT, Nat.reduceEqDiff, Int.reduceLT, Int.reduceLE, Int.reduceAdd, Int.reduceSub, Int.reduceMul, Int.reduceToNat, reduceIte, reduceCtorEq, Nat.reduceBEq, v5_17, v5_18]
  refine run_drw (by kernel_rfl) ?_
  refine drun_drive 40 (p := (_, _)) ?_
  simp only [go_sem, Nat.reduceAdd, Nat.reduceSub, Nat.reduceLeDiff, Nat.reduceMul, Nat.reduceLT, Nat.reduceEqDiff, Int.reduceLT, Int.reduceLE, Int.reduceAdd, Int.reduceSub, Int.reduceMul, Int.reduceToNat, reduceIte, reduceCtorEq, Nat.reduceBEq, v5_19, restore, Option.join_some, maskH, List.mapIdx_cons, List.mapIdx_nil, List.contains_cons, List.contains_nil, Bool.or_false, Bool.or_true, Bool.false_or, Bool.true_or, Nat.reduceBEq]
  refine drun_call' ?_
  simp only [go_sem, Nat.reduceAdd, Nat.reduceSub, Nat.reduceLeDiff, Nat.reduceMul, Nat.reduceLT, Nat.reduceEqDiff, Int.reduceLT, Int.reduceLE, Int.reduceAdd, Int.reduceSub, Int.reduceMul, Int.reduceToNat, reduceIte, reduceCtorEq, Nat.reduceBEq, calV, restore, Option.join_some, maskH, List.mapIdx_cons, List.mapIdx_nil, List.contains_cons, List.contains_nil, Bool.or_false, Bool.or_true, Bool.false_or, Bool.true_or, Nat.reduceBEq]
  refine line_of_at (fl g nG) (2 ^ k) hp0 (by omega) (.grow 4) 4 rfl rfl ?_
  refine drun_drive 40 (p := (_, _)) ?_
  simp only [go_sem, Nat.reduceAdd, Nat.reduceSub, Nat.reduceLeDiff, Nat.reduceMul, Nat.reduceLT, Nat.reduceEqDiff, Int.reduceLT, Int.reduceLE, Int.reduceAdd, Int.reduceSub, Int.reduceMul, Int.reduceToNat, reduceIte, reduceCtorEq, Nat.reduceBEq, restore, Option.join_some, maskH, List.mapIdx_cons, List.mapIdx_nil, List.contains_cons, List.contains_nil, Bool.or_false, Bool.or_true, Bool.false_or, Bool.true_or, Nat.reduceBEq]
  refine drun_call' ?_
  simp only [go_sem, Nat.reduceAdd, Nat.reduceSub, Nat.reduceLeDiff, Nat.reduceMul, Nat.reduceLT, Nat.reduceEqDiff, Int.reduceLT, Int.reduceLE, Int.reduceAdd, Int.reduceSub, Int.reduceMul, Int.reduceToNat, reduceIte, reduceCtorEq, Nat.reduceBEq, calV, restore, Option.join_some, maskH, List.mapIdx_cons, List.mapIdx_nil, List.contains_cons, List.contains_nil, Bool.or_false, Bool.or_true, Bool.false_or, Bool.true_or, Nat.reduceBEq]
  refine line_of_at (fl h' nH) (2 ^ k) hp0 (by omega) (.grow 4) 5 rfl rfl ?_
  refine drun_drive 40 (p := (_, _)) ?_
  simp only [go_sem, Nat.reduceAdd, Nat.reduceSub, Nat.reduceLeDiff, Nat.reduceMul, Nat.reduceLT, Nat.reduceEqDiff, Int.reduceLT, Int.reduceLE, Int.reduceAdd, Int.reduceSub, Int.reduceMul, Int.reduceToNat, reduceIte, reduceCtorEq, Nat.reduceBEq, restore, Option.join_some, maskH, List.mapIdx_cons, List.mapIdx_nil, List.contains_cons, List.contains_nil, Bool.or_false, Bool.or_true, Bool.false_or, Bool.true_or, Nat.reduceBEq]
  refine drun_call' ?_
  simp only [go_sem, Nat.reduceAdd, Nat.reduceSub, Nat.reduceLeDiff, Nat.reduceMul, Nat.reduceLT, Nat.reduceEqDiff, Int.reduceLT, Int.reduceLE, Int.reduceAdd, Int.reduceSub, Int.reduceMul, Int.reduceToNat, reduceIte, reduceCtorEq, Nat.reduceBEq, calV, restore, Option.join_some, maskH, List.mapIdx_cons, List.mapIdx_nil, List.contains_cons, List.contains_nil, Bool.or_false, Bool.or_true, Bool.false_or, Bool.true_or, Nat.reduceBEq]
  have hz0 : [V.int .u64 (nl 0), .int .u64 (nl 0), .int .u64 (nl 0), .int .u64 (nl 0)] = lc 0 := rfl
  refine vcall_at (rounds_fn 0 0 0 0 k (by omega) (.grow 4) (.grow 4) (.exact k) (.exact k) (fl g nG) (fl h' nH) (fun _ => 0) (fun _ => 0) us (.sl 2 0 k (.exact k)) (.sl 3 0 k (.exact k)) _ _ (.inl ⟨rfl, rfl, rfl, rfl⟩) (fun v l => v = .fn (.func 60) [] [.ptr 5 0, .ptr 6 0, .ptr 7 0] ∧ l = _) ⟨rfl, rfl⟩) [11, 12, 6, 7, 3] (by simp) ?_ ?_ ?_ ?_
  · refine hfit_cons rfl ?_ (hfit_cons rfl ?_ (hfit_cons rfl ?_ (hfit_cons rfl ?_ (hfit_cons rfl ?_ hfit_nil))))
    all_goals first | trivial | exact bfit_same (scs_rens ..) | exact bfit_db | (simp only [go_sem, Nat.reduceAdd, Nat.reduceSub, Nat.reduceLeDiff, Nat.reduceMul, Nat.reduceLT, Nat.reduceEqDiff, Int.reduceLT, Int.reduceLE, Int.reduceAdd, Int.reduceSub, Int.reduceMul, Int.reduceToNat, reduceIte, reduceCtorEq, Nat.reduceBEq, bfit, lc_fit, scs_fit, fit, ren, gmap, lw_plain, true_or, or_true])
  · exact uniq_nodup (by decide)
  · simp only [rens, ren, gmap, stL, arL, rens_append, lc_rens, dv_ren]
    rfl
  rintro v l ⟨rfl, rfl⟩
  rw [puts_ro (by simp [wrB_rob, wrB_ro]) rfl (by simp)]
  simp only [List.map_cons, List.map_nil, Option.map_some, renB, scs_rens, rens_append, lc_rens, rens, ren, gmap, stL, List.drop_succ_cons, List.drop_zero, List.cons_append, List.nil_append, List.length_cons, List.length_nil, Nat.reduceAdd, dv_ren, db_map]
  refine drun_drive 40 (p := (_, _)) ?_
  simp only [go_sem, Nat.reduceAdd, Nat.reduceSub, Nat.reduceLeDiff, Nat.reduceMul, Nat.reduceLT, Nat.reduceEqDiff, Int.reduceLT, Int.reduceLE, Int.reduceAdd, Int.reduceSub, Int.reduceMul, Int.reduceToNat, reduceIte, reduceCtorEq, Nat.reduceBEq, restore, Option.join_some, maskH, List.mapIdx_cons, List.mapIdx_nil, List.contains_cons, List.contains_nil, Bool.or_false, Bool.or_true, Bool.false_or, Bool.true_or, Nat.reduceBEq]
  refine drun_end ?_
  refine run_driveS 80 ?_
  simp only [go_sem, Nat.reduceAdd, Nat.reduceSub, Nat.reduceLeDiff, Nat.reduceMul, Nat.reduceLT, Nat.reduceEqDiff, Int.reduceLT, Int.reduceLE, Int.reduceAdd, Int.reduceSub, Int.reduceMul, Int.reduceToNat, reduceIte, reduceCtorEq, Nat.reduceBEq, v5_20, implies_true]
  refine run_cond_f (by rfl) ?_
  refine run_driveS 80 ?_
  simp only [go_sem, Nat.reduceAdd, Nat.reduceSub, Nat.reduceLeDiff, Nat.reduceMul, Nat.reduceLT, Nat.reduceEqDiff, Int.reduceLT, Int.reduceLE, Int.reduceAdd, Int.reduceSub, Int.reduceMul, Int.reduceToNat, reduceIte, reduceCtorEq, Nat.reduceBEq, v5_22]
  refine run_range rfl enters60 (fun r r1 r2 r3 r4 r5 r6 => ?_)
  have hro := fun t ht B0 B1 B2 B3 B4 B5' B6 B7 B12 B13 B14 B17 F => round5 (G := G) us (fl g nG) (fl h' nH) (fun _ => 0) (fun _ => 0) k 0 0 (by omega) r r1 r2 r3 r4 r5 r6 t ht B0 B1 B2 B3 B4 B5' B6 B7 B12 B13 B14 B17 (F := F)
  have hr1 := rounds1 (G := G) us (fl g nG) (fl h' nH) (fun _ => 0) (fun _ => 0) k 0 0 0 0 r tm5 (A5 us (fun _ => 0) (fun _ => 0) k 0 0) B5 (fun _ => none) (Z5 us (fl g nG) k) (W5 us (fl h' nH) k) hG (by omega) hus hz (fl_lt hg nG) (fl_lt hh nH) (fun _ => by decide) (fun _ => by decide) (by decide) (by decide)
    tm5_fit A5_fit (fun f t => bfit_g rfl) (fun _ _ => trivial) Z5_fit W5_fit rfl rfl (fun _ _ => rfl)
    (fun v l => v = .tup [] ∧ l = [bS k 0 0, bX k 0 0, bU k, some ⟨.ro, scs (2 ^ k) (fl g nG)⟩, some ⟨.ro, scs (2 ^ k) (fl h' nH)⟩, rob (fun _ => 0) k, rob (fun _ => 0) k, rob us k, some ⟨.loop r, tm5⟩, A5 us (fun _ => 0) (fun _ => 0) k 0 0 (k + 1) 12 13, B5 (k + 1), none, Z5 us (fl g nG) k (k + 1), W5 us (fl h' nH) k (k + 1)]) (fun _ _ _ _ => False)
    (fun t ht B0 B1 B2 B3 B4 B5' B6 B7 B12 B13 B14 B17 => hro t ht B0 B1 B2 B3 B4 B5' B6 B7 B12 B13 B14 B17 _) ⟨rfl, rfl⟩ (fun _ _ _ _ e => e.elim)
  clear hro
  simp only [go_sem, Nat.reduceAdd, Nat.reduceSub, Nat.reduceLeDiff, Nat.reduceMul, Nat.reduceLT, Nat.reduceEqDiff, Int.reduceLT, Int.reduceLE, Int.reduceAdd, Int.reduceSub, Int.reduceMul, Int.reduceToNat, reduceIte, reduceCtorEq, Nat.reduceBEq]
  refine vcall_at hr1 [13, 14, 15, 16, 17, 18, 19, 20, 21, 9, 10, 0] (by simp) ?_ ?_ ?_ ?_
  · refine hfit_cons rfl (bfit_st3 rfl rfl) (hfit_cons rfl (bfit_x3 rfl rfl) (hfit_cons rfl (bfit_u3 rfl) (hfit_cons rfl (bfit_same (scs_rens ..)) (hfit_cons rfl (bfit_same (scs_rens ..)) (hfit_cons rfl bfit_db (hfit_cons rfl bfit_db (hfit_cons rfl bfit_db (hfit_cons rfl ⟨.inl rfl, ?_⟩ (hfit_cons rfl (bfit_g rfl) (hfit_cons rfl (bfit_g rfl) (hfit_cons_none hfit_nil)))))))))))
    unfold tm5
    simp only [go_sem, Nat.reduceAdd, Nat.reduceSub, Nat.reduceLeDiff, Nat.reduceMul, Nat.reduceLT, Nat.reduceEqDiff, Int.reduceLT, Int.reduceLE, Int.reduceAdd, Int.reduceSub, Int.reduceMul, Int.reduceToNat, reduceIte, reduceCtorEq, Nat.reduceBEq, hfit, lc_fit, scs_fit, fit, ren, gmap, lw_plain, true_or, or_true]
  · exact uniq_nodup (by decide)
  · simp only [rens, ren, gmap]
  rintro v l ⟨rfl, rfl⟩
  clear hr1
  have w1 : wrB (bS k 0 0) = false := rfl
  have w2 : wrB (bX k 0 0) = false := rfl
  have w3 : wrB (bU k) = false := rfl
  have w4 : wrB (some ⟨.loop r, tm5⟩) = true := rfl
  have w5 : wrB (A5 us (fun _ => 0) (fun _ => 0) k 0 0 0 0 0) = true := rfl
  have w6 : wrB (B5 0) = true := rfl
  simp only [puts, w1, w2, w3, w4, w5, w6, wrB_rob, wrB_ro, wrB_none, Bool.false_eq_true, if_false, if_true]
  simp only [go_sem, Nat.reduceAdd, Nat.reduceSub, Nat.reduceLeDiff, Nat.reduceMul, Nat.reduceLT, Nat.reduceEqDiff, Int.reduceLT, Int.reduceLE, Int.reduceAdd, Int.reduceSub, Int.reduceMul, Int.reduceToNat, reduceIte, reduceCtorEq, Nat.reduceBEq, A5, B5, Z5, W5, Nat.sub_self, Nat.pow_zero, renB, scs_rens, rens_append, lc_rens, rens, ren, gmap]
  refine ⟨r, _, _, rfl, by rw [r1]; decide, by rw [r2]; rfl, ?_⟩
  clear r1 r2 r3 r4 r5 r6
  refine run_driveS 80 ?_
  simp only [go_sem, Nat.reduceAdd, Nat.reduceSub, Nat.reduceLeDiff, Nat.reduceMul, Nat.reduceLT, Nat.reduceEqDiff, Int.reduceLT, Int.reduceLE, Int.reduceAdd, Int.reduceSub, Int.reduceMul, Int.reduceToNat, reduceIte, reduceCtorEq, Nat.reduceBEq, v5_30]
  refine run_call' rfl ?_
  simp only [go_sem, Nat.reduceAdd, Nat.reduceSub, Nat.reduceLeDiff, Nat.reduceMul, Nat.reduceLT, Nat.reduceEqDiff, Int.reduceLT, Int.reduceLE, Int.reduceAdd, Int.reduceSub, Int.reduceMul, Int.reduceToNat, reduceIte, reduceCtorEq, Nat.reduceBEq, calV]
  refine weights_at hG us hus k (by omega) hz 3 rfl ?_
  have e0 : ((k + 1 : Nat) : Int) = ((k : Nat) : Int) + 1 := by omega
  have hwk : IntKind.i64.wrap ((k : Int) + 1) = ((k + 1 : Nat) : Int) := by rw [wrap_i64 (by omega) (by omega)]; omega
  refine run_driveS 80 ?_
  simp only [go_sem, Nat.reduceAdd, Nat.reduceSub, Nat.reduceLeDiff, Nat.reduceMul, Nat.reduceLT, Nat.reduceEqDiff, Int.reduceLT, Int.reduceLE, Int.reduceAdd, Int.reduceSub, Int.reduceMul, Int.reduceToNat, reduceIte, reduceCtorEq, Nat.reduceBEq, v5_31, hwk, lenO_sl, lenO_dv, eq_int, decide_true]
  refine run_cond_f (by rfl) ?_
  have hloop := fun Q B0 B1 B2 B3 B6 B7 B8 B9 B10 B11 B12 B13 B14 B15 B16 B17 B18 B19 B20 B21 B22 B23 h => sum5 (G := G) (Q := Q) (2 ^ k) (wf us k) (fl g nG) (fl h' nH) B0 B1 B2 B3 B6 B7 B8 B9 B10 B11 B12 B13 B14 B15 B16 B17 B18 B19 B20 B21 B22 B23 (K := [.c (.seq (.drw v5_42) .ret)]) hG (by omega) (fun j => Nat.lt_trans (wf_lt ..) ell_lt) (fl_lt hg nG) (fl_lt hh nH) h
  unfold sh5 at hloop
  have k1 : Gs us (fl g nG) k k 0 % ell = sm (fun j => wf us k j * fl g nG j) (2 ^ k) % ell := by rw [Gs_end, Nat.mod_eq_of_lt (sm_lt _ _)]
  have k2 : Hs us (fl h' nH) k k 0 % ell = sm (fun j => linv (wf us k j) * fl h' nH j) (2 ^ k) % ell := by rw [Hs_end _ _ _ hz, Nat.mod_eq_of_lt (sm_lt _ _)]
  have hG0 := Gs_lt (us := us) (N := k) (fl_lt hg nG) k 0
  have hH0 := Hs_lt (us := us) (N := k) (fl_lt hh nH) k 0
  have hS1 := Nat.lt_trans (sm_lt (fun j => wf us k j * fl g nG j) (2 ^ k)) ell_lt
  have hS2 := Nat.lt_trans (sm_lt (fun j => linv (wf us k j) * fl h' nH j) (2 ^ k)) ell_lt
  have t1 : ∀ f, List.take 4 (scs 1 f) = lc (f 0) := fun _ => rfl
  have z0 : ∀ f, lc (sm f 0) = lc 0 := fun _ => rfl
  simp only [z0] at hloop
  refine run_driveS 80 ?_
  simp only [go_sem, Nat.reduceAdd, Nat.reduceSub, Nat.reduceLeDiff, Nat.reduceMul, Nat.reduceLT, Nat.reduceEqDiff, Int.reduceLT, Int.reduceLE, Int.reduceAdd, Int.reduceSub, Int.reduceMul, Int.reduceToNat, reduceIte, reduceCtorEq, Nat.reduceBEq, v5_33, v5_34, v5_41, hz0]
  refine run_tmps ?_ (hloop _ _ _ _ _ _ _ _ _ _ _ _ _ _ _ _ _ _ _ _ _ _ _ ?_)
  · unfold sv5
    simp only [go_sem, Nat.reduceAdd, Nat.reduceSub, Nat.reduceLeDiff, Nat.reduceMul, Nat.reduceLT, Nat.reduceEqDiff, Int.reduceLT, Int.reduceLE, Int.reduceAdd, Int.reduceSub, Int.reduceMul, Int.reduceToNat, reduceIte, reduceCtorEq, Nat.reduceBEq, forg, true_or, or_true]
  clear hloop
  unfold sv5
  refine run_driveS 80 ?_
  simp only [go_sem, Nat.reduceAdd, Nat.reduceSub, Nat.reduceLeDiff, Nat.reduceMul, Nat.reduceLT, Nat.reduceEqDiff, Int.reduceLT, Int.reduceLE, Int.reduceAdd, Int.reduceSub, Int.reduceMul, Int.reduceToNat, reduceIte, reduceCtorEq, Nat.reduceBEq]
  refine run_drw (by kernel_rfl) ?_
  refine drun_drive 40 (p := (_, _)) ?_
  simp only [go_sem, Nat.reduceAdd, Nat.reduceSub, Nat.reduceLeDiff, Nat.reduceMul, Nat.reduceLT, Nat.reduceEqDiff, Int.reduceLT, Int.reduceLE, Int.reduceAdd, Int.reduceSub, Int.reduceMul, Int.reduceToNat, reduceIte, reduceCtorEq, Nat.reduceBEq, v5_42, t1, restore, Option.join_some, maskH, List.mapIdx_cons, List.mapIdx_nil, List.contains_cons, List.contains_nil, Bool.or_false, Bool.or_true, Bool.false_or, Bool.true_or, Nat.reduceBEq]
  refine drun_call' ?_
  simp only [go_sem, Nat.reduceAdd, Nat.reduceSub, Nat.reduceLeDiff, Nat.reduceMul, Nat.reduceLT, Nat.reduceEqDiff, Int.reduceLT, Int.reduceLE, Int.reduceAdd, Int.reduceSub, Int.reduceMul, Int.reduceToNat, reduceIte, reduceCtorEq, Nat.reduceBEq, calV, restore, Option.join_some, maskH, List.mapIdx_cons, List.mapIdx_nil, List.contains_cons, List.contains_nil, Bool.or_false, Bool.or_true, Bool.false_or, Bool.true_or, Nat.reduceBEq]
  refine same_ hG _ _ hG0 hS1 ?_
  rw [decide_eq_true k1]
  refine drun_drive 40 (p := (_, _)) ?_
  simp only [go_sem, Nat.reduceAdd, Nat.reduceSub, Nat.reduceLeDiff, Nat.reduceMul, Nat.reduceLT, Nat.reduceEqDiff, Int.reduceLT, Int.reduceLE, Int.reduceAdd, Int.reduceSub, Int.reduceMul, Int.reduceToNat, reduceIte, reduceCtorEq, Nat.reduceBEq, t1, restore, Option.join_some, maskH, List.mapIdx_cons, List.mapIdx_nil, List.contains_cons, List.contains_nil, Bool.or_false, Bool.or_true, Bool.false_or, Bool.true_or, Nat.reduceBEq]
  refine drun_call' ?_
  simp only [go_sem, Nat.reduceAdd, Nat.reduceSub, Nat.reduceLeDiff, Nat.reduceMul, Nat.reduceLT, Nat.reduceEqDiff, Int.reduceLT, Int.reduceLE, Int.reduceAdd, Int.reduceSub, Int.reduceMul, Int.reduceToNat, reduceIte, reduceCtorEq, Nat.reduceBEq, calV, restore, Option.join_some, maskH, List.mapIdx_cons, List.mapIdx_nil, List.contains_cons, List.contains_nil, Bool.or_false, Bool.or_true, Bool.false_or, Bool.true_or, Nat.reduceBEq]
  refine same_ hG _ _ hH0 hS2 ?_
  rw [decide_eq_true k2]
  refine drun_drive 40 (p := (_, _)) ?_
  simp only [go_sem, Nat.reduceAdd, Nat.reduceSub, Nat.reduceLeDiff, Nat.reduceMul, Nat.reduceLT, Nat.reduceEqDiff, Int.reduceLT, Int.reduceLE, Int.reduceAdd, Int.reduceSub, Int.reduceMul, Int.reduceToNat, reduceIte, reduceCtorEq, Nat.reduceBEq, restore, Option.join_some, maskH, List.mapIdx_cons, List.mapIdx_nil, List.contains_cons, List.contains_nil, Bool.or_false, Bool.or_true, Bool.false_or, Bool.true_or, Nat.reduceBEq]
  refine drun_end ?_
  refine run_driveS 80 ?_
  simp only [go_sem, Nat.reduceAdd, Nat.reduceSub, Nat.reduceLeDiff, Nat.reduceMul, Nat.reduceLT, Nat.reduceEqDiff, Int.reduceLT, Int.reduceLE, Int.reduceAdd, Int.reduceSub, Int.reduceMul, Int.reduceToNat, reduceIte, reduceCtorEq, Nat.reduceBEq]
  refine run_ret_drop Tryd.func5 res5 [0, 1, 2] (.bool true) [ivb g nG zG, ivb h' nH zH, ivb u nU zU] rfl (by simp) ?_ ?_ ?_ ⟨rfl, rfl⟩
  · exact hfit_cons rfl bfit_ivb (hfit_cons rfl bfit_ivb (hfit_cons rfl bfit_ivb hfit_nil))
  · exact uniq_nodup (by decide)
  · simp only [go_sem, Nat.reduceAdd, Nat.reduceSub, Nat.reduceLeDiff, Nat.reduceMul, Nat.reduceLT, Nat.reduceEqDiff, Int.reduceLT, Int.reduceLE, Int.reduceAdd, Int.reduceSub, Int.reduceMul, Int.reduceToNat, reduceIte, reduceCtorEq, Nat.reduceBEq, rr5, ren, gmap]
end Go.Vs.Tryd
namespace Go.Vs.Tryd
open Go.Proofs Go.ChangeShapes Go.WideShapes Go.ChangeAt Go.RowKit
def num (z : Nat → Nat) : Nat := z 0 + 18446744073709551616 * z 1 + 340282366920938463463374607431768211456 * z 2 + 6277101735386680763835789423207666416102355444464034512896 * z 3
theorem lc_num {z : Nat → Nat} (h : ∀ k, z k < 18446744073709551616) : lc (num z) = [.int .u64 (z 0 : Int), .int .u64 (z 1 : Int), .int .u64 (z 2 : Int), .int .u64 (z 3 : Int)] := (lc_of (h 0) (h 1) (h 2) (h 3)).symm
theorem num_lt {z : Nat → Nat} (h : ∀ k, z k < 18446744073709551616) : num z < 115792089237316195423570985008687907853269984665640564039457584007913129639936 := by
  have h0 := h 0; have h1 := h 1; have h2 := h 2; have h3 := h 3
  unfold num
  omega
theorem sim_cells {W : World} {a : Addr} (hs : a.spot = none) (z : Nat → Nat → Nat) (hz : ∀ i k, z i k < 18446744073709551616) : ∀ (n : Nat), (∀ i, i < n → ∀ k, k < 4 → W.cell? (a.add (i * 4 + k)) = some (.int .u64 (z i k : Int))) →
    ∀ (j : Nat) (v : V), (scs n fun i => num (z i))[j]? = some v → ∃ x : Int, v = .int .u64 x ∧ W.cell? ⟨a.block, a.off + j, none⟩ = some (.int .u64 x)
  | 0, _, j, v, hj => by simp [scs, row] at hj
  | n + 1, h, j, v, hj => by
    have hlen := scs_len n fun i => num (z i)
    have e : (scs (n + 1) fun i => num (z i)) = (scs n fun i => num (z i)) ++ lc (num (z n)) := rfl
    rw [e] at hj
    rcases Nat.lt_or_ge j (n * 4) with hlt | hge
    · rw [List.getElem?_append_left (by rw [hlen]; exact hlt)] at hj
      exact sim_cells hs z hz n (fun i hi => h i (by omega)) j v hj
    · rw [List.getElem?_append_right (by rw [hlen]; exact hge), hlen, lc_num (hz n)] at hj
      have key : ∀ k, k < 4 → j - n * 4 = k → W.cell? ⟨a.block, a.off + j, none⟩ = some (.int .u64 (z n k : Int)) := by
        intro k hk e
        have := h n (Nat.lt_succ_self n) k hk
        rw [show n * 4 + k = j by omega] at this
        obtain ⟨b, o, sp⟩ := a
        simp only at hs
        subst hs
        rw [Addr.add_lit] at this
        exact this
      have : j - n * 4 < 4 := by
        have := (List.getElem?_eq_some_iff.1 hj).1
        simpa using this
      have : j - n * 4 = 0 ∨ j - n * 4 = 1 ∨ j - n * 4 = 2 ∨ j - n * 4 = 3 := by omega
      rcases this with e | e | e | e <;> rw [e] at hj <;> simp at hj <;> subst hj
      · exact ⟨_, rfl, key 0 (by omega) e⟩
      · exact ⟨_, rfl, key 1 (by omega) e⟩
      · exact ⟨_, rfl, key 2 (by omega) e⟩
      · exact ⟨_, rfl, key 3 (by omega) e⟩
def GlobsOk (G : Nat → List V) (W : World) : Prop := (∀ g o v, (G g)[o]? = some v → v ≠ .unk → ∃ r, conc [] v = some r ∧ W.cell? ⟨g, o, none⟩ = some r) ∧ ∀ g, W.heap.size ≤ g → G g = []
def RoB (W : World) (b : Option Blk) (p : Option Pl) : Prop :=
  b = none ∨ ∃ cs q, b = some ⟨.ro, cs⟩ ∧ p = some q ∧ q.block < W.heap.size ∧ cs.length ≤ q.size ∧ ∀ (j : Nat) v, cs[j]? = some v → v ≠ .unk → ∃ r, conc [] v = some r ∧ W.cell? ⟨q.block, q.base + j, none⟩ = some r
theorem sim_ro {G : Nat → List V} {W : World} (hG : GlobsOk G W) {ρ : Rho} {h : Heap} (hl : ρ.length = h.length) (hb : ∀ i b, h[i]? = some b → RoB W b (place ρ i)) : Sim G ρ h W := by
  have key : ∀ i b, Live h i b → ∃ q, b.kind = .ro ∧ place ρ i = some q ∧ q.block < W.heap.size ∧ b.cells.length ≤ q.size ∧ ∀ (j : Nat) v, b.cells[j]? = some v → v ≠ .unk → ∃ r, conc [] v = some r ∧ W.cell? ⟨q.block, q.base + j, none⟩ = some r := by
    intro i b hi
    rcases hb i (some b) hi with e | ⟨cs, q, e, h1, h2, h3, h4⟩
    · cases e
    · cases e; exact ⟨q, rfl, h1, h2, h3, h4⟩
  refine ⟨hl, fun i b h => ?_, fun i b r h hp _ j v hj hu => ?_, fun i b r h hp => ?_, fun i b r h hp hk => ?_, fun i j bi bj pi pj hij hi hj h1 h2 h3 => ?_, hG.1, hG.2, fun i b p r h hp hk => ?_⟩
  · obtain ⟨q, _, h1, _⟩ := key i b h
    exact ⟨q, h1⟩
  · obtain ⟨q, _, h1, _, _, h4⟩ := key i b h
    obtain rfl := Option.some.inj (h1.symm.trans hp)
    obtain ⟨x, e1, e2⟩ := h4 j v hj hu
    exact ⟨x, conc_ext (fun i p hp => by simp [place] at hp) _ _ e1, e2⟩
  · obtain ⟨q, _, h1, h2, h3, _⟩ := key i b h
    obtain rfl := Option.some.inj (h1.symm.trans hp)
    exact ⟨h2, h3⟩
  · obtain ⟨q, h0, _⟩ := key i b h
    rw [h0] at hk; cases hk
  · obtain ⟨q, h0, _⟩ := key i bi hi
    exact absurd h0 h3
  · obtain ⟨q, h0, _⟩ := key i b h
    rw [h0] at hk; cases hk
theorem globs_one {P : Program} {W : World} {name : String} {g : Nat} (hg : P.globalNamed name = some g) {rs : Array Value} (h : W.var? P name = some rs) {cs : List V} (hc : concs [] cs = some rs.toList) : GlobsOk (fun k => if k = g then cs else []) W := by
  unfold World.var? at h
  rw [hg] at h
  simp only [Option.bind_some] at h
  split at h <;> try (cases h; done)
  rename_i cells e fr hh
  simp only [Option.some.injEq] at h
  subst h
  refine ⟨fun k o v hv _ => ?_, fun k hle => ?_⟩
  · dsimp only at hv
    split at hv
    · rename_i e0
      subst e0
      obtain ⟨x, hx, hr⟩ := concs_get hc o v hv
      refine ⟨x, hx, ?_⟩
      unfold World.cell?
      simp only [hh]
      simpa using hr
    · simp at hv
  · dsimp only
    rw [if_neg]
    rintro rfl
    have : W.heap[k]? = none := Array.getElem?_eq_none hle
    rw [this] at hh
    cases hh
variable {P : Program} {H : Type} {enc : TypeId × Value → H} {W : World} {base : Nat}
theorem elem_of {e w : TypeId} (he : P.underlying e = some (.array 4 w)) (hw : P.underlying w = some (.int .u64)) (s1 : P.cellsOf w = 1) (s4 : P.cellsOf e = 4) {n : Nat} {cs : List Value} {x : DataW H × List MemPlace} (h : DataW.trod enc P W 0 (fun _ => true) true n e cs = some x) :
    ∃ z : Nat → Nat, (∀ k, z k < 18446744073709551616) ∧ cs.length = 4 ∧ ∀ k, k < 4 → cs[k]? = some (.int .u64 (z k : Int)) := by
  obtain ⟨xs, m, _, _, hl, hxl, hel⟩ := DataW.trod_array he h
  rw [s4] at hl
  have key : ∀ k, k < 4 → ∃ z : Nat, z < 18446744073709551616 ∧ cs[k]? = some (.int .u64 (z : Int)) := by
    intro k hk
    have hk' := hel k hk
    rw [s1, Nat.mul_one] at hk'
    obtain ⟨y, hy⟩ : ∃ y, xs[k]? = some y := ⟨xs[k], List.getElem?_eq_getElem (by omega)⟩
    rw [hy] at hk'
    obtain ⟨z, e1, _, hwf⟩ := DataW.trod_int hw hk'
    have hb := bounds_u64 hwf
    refine ⟨z.toNat, by omega, ?_⟩
    have e2 : ((cs.drop k).take 1)[0]? = some (.int .u64 z) := by rw [e1]; rfl
    rw [List.getElem?_take_of_lt (by decide), List.getElem?_drop, Nat.add_zero] at e2
    rw [e2, show ((z.toNat : Nat) : Int) = z by omega]
  obtain ⟨z0, a0, b0⟩ := key 0 (by omega)
  obtain ⟨z1, a1, b1⟩ := key 1 (by omega)
  obtain ⟨z2, a2, b2⟩ := key 2 (by omega)
  obtain ⟨z3, a3, b3⟩ := key 3 (by omega)
  refine ⟨fun k => if k = 0 then z0 else if k = 1 then z1 else if k = 2 then z2 else if k = 3 then z3 else 0, fun k => ?_, hl, fun k hk => ?_⟩
  · show (if k = 0 then z0 else if k = 1 then z1 else if k = 2 then z2 else if k = 3 then z3 else 0) < _
    (repeat' split) <;> omega
  · have : k = 0 ∨ k = 1 ∨ k = 2 ∨ k = 3 := by omega
    rcases this with rfl | rfl | rfl | rfl
    · exact b0
    · exact b1
    · exact b2
    · exact b3
theorem slice_of {t e w : TypeId} (ht : P.underlying t = some (.slice e)) (he : P.underlying e = some (.array 4 w)) (hw : P.underlying w = some (.int .u64)) (s1 : P.cellsOf w = 1) (s4 : P.cellsOf e = 4) {n : Nat} {v : Value} {x : DataW H × List MemPlace}
    (hok : Cell.okWide P W .any base t v) (h : DataW.trod enc P W 0 (fun _ => true) true n t [v] = some x) :
    ∃ (f : Nat → Nat) (n m : Nat) (z : Bool) (p : Option Pl), Ok n m z ∧ (∀ j, f j < 115792089237316195423570985008687907853269984665640564039457584007913129639936) ∧ RoB W (ivb f n z) p ∧ ∀ ρ i, place ρ i = p → conc ρ (ivl i n m z) = some v := by
  unfold Cell.okWide at hok
  rw [ht] at hok
  have hok : Cell.ok P W .any base t v := by
    cases v <;> exact hok
  unfold Cell.ok at hok
  rw [ht] at hok
  split at hok <;> try (exact hok.elim) <;> try (rename_i e _; cases e; done)
  all_goals try (rename_i e; cases e; done)
  all_goals try (rename_i e _ ; cases e; done)
  · exact ⟨fun _ => 0, 0, 0, true, none, ⟨Nat.le_refl _, fun _ => rfl⟩, fun _ => (by decide : (0 : Nat) < 115792089237316195423570985008687907853269984665640564039457584007913129639936), .inl rfl, fun _ _ _ => rfl⟩
  · rename_i e' a len cap heq _
    obtain rfl : e = e' := by simpa using heq
    obtain ⟨hlc, hcap, _, hspot, row, cells, hshape, _⟩ := hok
    have hblk : a.block < W.heap.size := by
      unfold World.shape? at hshape
      split at hshape
      · rename_i e
        exact (Array.getElem?_eq_some_iff.1 e).1
      · cases hshape
    rcases Go.Deep.open_slice ht h with ⟨e, _⟩ | ⟨a', len', cap', m, n, D, Pl, e, _, _, _, hm, _, hel⟩
    · simp at e
    · have e' : a = a' ∧ len = len' ∧ cap = cap' := by simpa using e
      obtain ⟨rfl, rfl, rfl⟩ := e'
      have hm' : m = cap := by rw [hm]; rfl
      have hex : ∀ i, i < len → ∃ z : Nat → Nat, (∀ k, z k < 18446744073709551616) ∧ ∀ k, k < 4 → W.cell? (a.add (i * 4 + k)) = some (.int .u64 (z k : Int)) := by
        intro i hi
        obtain ⟨cs', h1, h2⟩ := hel i (by omega)
        obtain ⟨z, hz, _, hc⟩ := elem_of he hw s1 s4 h2
        refine ⟨z, hz, fun k hk => ?_⟩
        rw [s4] at h1
        unfold World.cells? at h1
        rw [if_pos (Nat.zero_le _)] at h1
        have h3 := mapM_some_get h1 k k (by rw [List.getElem?_range hk])
        rw [hc k hk, Go.Deep.add_add] at h3
        exact h3
      obtain ⟨Z, hZ⟩ := Go.Deep.choose_lt hex
      let z' : Nat → Nat → Nat := fun i => if i < len then Z i else fun _ => 0
      have hz' : ∀ i k, z' i k < 18446744073709551616 := by
        intro i k
        show (if i < len then Z i else fun _ => 0) k < _
        split
        · rename_i hi; exact (hZ i hi).1 k
        · exact (by decide : (0 : Nat) < 18446744073709551616)
      have hc' : ∀ i, i < len → ∀ k, k < 4 → W.cell? (a.add (i * 4 + k)) = some (.int .u64 (z' i k : Int)) := by
        intro i hi k hk
        show _ = some (Value.int .u64 (((if i < len then Z i else fun _ => 0) k : Nat) : Int))
        rw [if_pos hi]
        exact (hZ i hi).2 k hk
      refine ⟨fun i => num (z' i), len, cap, false, some ⟨a.block, a.off, len * 4⟩, ⟨hlc, fun h => (by cases h)⟩, fun j => num_lt (hz' j), .inr ⟨_, _, rfl, rfl, hblk, by rw [scs_len]; exact Nat.le_refl _, fun j v hj _ => ?_⟩, fun ρ i hp => ?_⟩
      · obtain ⟨x, rfl, hx⟩ := sim_cells hspot z' hz' len hc' j v hj
        exact ⟨_, rfl, hx⟩
      · obtain ⟨b, o, sp⟩ := a
        simp only at hspot
        subst hspot
        show (place ρ i).map _ = _
        rw [hp]
        rfl
theorem calls_of {G : Nat → List V} {f : FuncId} {args : List V} {h : Heap} {u : V} (hcf : ∀ (xs : Array Value) w, (callFunc f xs).run P w = .ok (.enter f xs) w) (hro : ∀ b ∈ h, wrB b = false) (hv : VCall P G f args h fun v k => v = u ∧ k = h) {ρ : Rho} {W : World} {vs : List Value} {r : Value}
    (hs : Sim G ρ h W) (hc : concs ρ args = some vs) (hr : ∀ ρ, conc ρ u = some r) : Calls P f vs.toArray W fun e w' => e = .returned r ∧ Below W.heap.size W w' := by
  have hno : ∀ b, ¬ WR ρ h b := by
    rintro b ⟨i, bk, q, h1, h2, h3, h4⟩
    exact h3 (by
      have := hro _ (List.mem_of_getElem? h1)
      obtain ⟨k, c⟩ := bk
      cases k <;> simp [wrB] at this ⊢)
  rcases hv ρ W vs hs hc with ⟨_, h⟩ | ⟨v', w', h, _⟩
  · refine h.mono fun e w' hr' => ?_
    obtain ⟨ρ', x, h', y, rfl, h2, h3, h4, rfl, _⟩ := hr'
    rw [hr] at h2
    cases h2
    exact ⟨rfl, h4.os, h4.tape, h4.output, h4.size, fun b hb => h4.same b hb (hno b)⟩
  · rw [hcf] at h
    cases h
end Go.Vs.Tryd
namespace Go.Proofs.YtebekndmhgmfbaaDoor
open Go.ChangeShapes Go.WideShapes Go.ChangeAt Go.RowKit Go.Vs
set_option maxRecDepth 100000
theorem u22 : Tryd.prog.underlying 22 = some (.int .u64) := by kernel_rfl
theorem u23 : Tryd.prog.underlying 23 = some (.array 4 22) := by kernel_rfl
theorem u24 : Tryd.prog.underlying 24 = some (.slice 23) := by kernel_rfl
theorem c22 : Tryd.prog.cellsOf 22 = 1 := by kernel_rfl
theorem c23 : Tryd.prog.cellsOf 23 = 4 := by kernel_rfl
theorem u27 : Tryd.prog.underlying 27 = some (.array 4 22) := by kernel_rfl
theorem c27 : Tryd.prog.cellsOf 27 = 4 := by kernel_rfl
theorem u127 : Tryd.prog.underlying 127 = some (.array 4 27) := by kernel_rfl
theorem c127 : Tryd.prog.cellsOf 127 = 16 := by kernel_rfl
theorem four {n : Nat} {W : World} {base : Nat} {sp : Nat → Bool} {held : Bool} {enc : TypeId × Value → Unit} {cs : List Value} {a b c d : Int} {p : List MemPlace} (h : DataW.trod enc Tryd.prog W base sp held n 27 cs = some (.agg [.lit (.int .u64 a), .lit (.int .u64 b), .lit (.int .u64 c), .lit (.int .u64 d)], p)) :
    cs = [.int .u64 a, .int .u64 b, .int .u64 c, .int .u64 d] := by
  obtain ⟨xs, m, _, ex, hlen, hl, hel⟩ := DataW.trod_array u27 h
  rw [c27] at hlen
  match cs, hlen with
  | [v0, v1, v2, v3], _ =>
    match xs, hl with
    | [x0, x1, x2, x3], _ =>
      have e3 := (DataW.agg.inj (Prod.mk.inj ex).1)
      simp only [List.map_cons, List.map_nil, List.cons.injEq, and_true] at e3
      have k0 := hel 0 (by omega); have k1 := hel 1 (by omega); have k2 := hel 2 (by omega); have k3 := hel 3 (by omega)
      rw [c22] at k0 k1 k2 k3
      obtain ⟨z0, a0, b0, _⟩ := DataW.trod_int u22 k0
      obtain ⟨z1, a1, b1, _⟩ := DataW.trod_int u22 k1
      obtain ⟨z2, a2, b2, _⟩ := DataW.trod_int u22 k2
      obtain ⟨z3, a3, b3, _⟩ := DataW.trod_int u22 k3
      simp_all
def tblV : Array Value := #[.int .u64 6346243789798364141, .int .u64 1503914060200516822, .int .u64 0, .int .u64 1152921504606846976, .int .u64 15486807595281847581, .int .u64 14334777244411350896, .int .u64 18446744073709551614, .int .u64 1152921504606846975, .int .u64 11819153939886771969, .int .u64 14991950615390032711, .int .u64 14910419812499177061, .int .u64 259310039853996605, .int .u64 6346243789798364139, .int .u64 1503914060200516822, .int .u64 0, .int .u64 1152921504606846976]
theorem tableCells {W : World} {rest : List (String × DataW Unit)} (hp : laidMet Tryd.prog (("veil/scalar.table", Rows.laid_veil_scalar_table) :: rest) W) : W.var? Tryd.prog "veil/scalar.table" = some tblV := by
  obtain ⟨ps, ⟨g, t, cs, fuel, p, q, hg, ht, hv, hd, _, _⟩, _, _⟩ := hp
  obtain rfl := Option.some.inj ((show Tryd.prog.globalNamed "veil/scalar.table" = some 0 by kernel_rfl).symm.trans hg)
  obtain rfl := Option.some.inj ((show (Tryd.prog.globals[0]?).map (·.type) = some 127 by kernel_rfl).symm.trans ht)
  obtain ⟨xs, m, _, ex, hlen, hl, hel⟩ := DataW.trod_array u127 hd
  rw [c127] at hlen
  match xs, hl with
  | [x0, x1, x2, x3], _ =>
    have e3 := (DataW.agg.inj (Prod.mk.inj ex).1)
    simp only [List.map_cons, List.map_nil, List.cons.injEq, and_true] at e3
    obtain ⟨e0, e1, e2, e3⟩ := e3
    have k0 := hel 0 (by omega); have k1 := hel 1 (by omega); have k2 := hel 2 (by omega); have k3 := hel 3 (by omega)
    rw [c27] at k0 k1 k2 k3
    obtain ⟨d0, p0⟩ := x0
    obtain ⟨d1, p1⟩ := x1
    obtain ⟨d2, p2⟩ := x2
    obtain ⟨d3, p3⟩ := x3
    simp only at e0 e1 e2 e3
    subst e0 e1 e2 e3
    have f0 := four k0
    have f1 := four k1
    have f2 := four k2
    have f3 := four k3
    rw [hv]
    obtain ⟨l⟩ := cs
    simp only at f0 f1 f2 f3 hlen
    have hsplit : l = (l.drop (0 * 4)).take 4 ++ (l.drop (1 * 4)).take 4 ++ (l.drop (2 * 4)).take 4 ++ (l.drop (3 * 4)).take 4 := by
      match l, hlen with
      | [_, _, _, _, _, _, _, _, _, _, _, _, _, _, _, _], _ => rfl
    rw [hsplit, f0, f1, f2, f3]
    rfl
def GT : Nat → List V := fun g => if g = 0 then Go.Vs.Tryd.tbl else []
theorem globs_of {W : World} (h : W.var? Tryd.prog "veil/scalar.table" = some tblV) : Go.Vs.Tryd.GlobsOk GT W :=
  Go.Vs.Tryd.globs_one (show Tryd.prog.globalNamed "veil/scalar.table" = some 0 by kernel_rfl) h (by rfl)
theorem c4 : Tryd.prog.cellsOf 4 = 1 := by kernel_rfl
theorem c3 : Tryd.prog.cellsOf 3 = 1 := by kernel_rfl
end Go.Proofs.YtebekndmhgmfbaaDoor
namespace Go.Vs
open Go
theorem onlyLeaving_of_quiet {P : Program} {m : Machine} (h : m.quiet) : m.OnlyLeaving P :=
  ⟨fun g hg => ⟨0, show g.status = .finished by have := List.all_eq_true.1 h.1 g hg; simpa using this⟩, h.2⟩
theorem leavingWide_of_handed {a : Assume} {C : Checked} {os : Os} {f : FuncId} {r : Reach} {Pre : World → Array Value → Prop} {Post : World → Array Value → Value → World → Prop}
    (h : ReturnsInHanded a C os f r Pre Post) : ReturnsInLeavingWide a C os f r Pre Post := fun enter =>
  ReturnsInOpen.mono (fun _ _ _ x => ⟨x.2.1, onlyLeaving_of_quiet x.1, x.2.2⟩) (fun _ x => x) (h enter)
theorem holds_tied_goes (Lk : Looks) {p : Pinned} {s : OpenSpec} {c : OpenClaim} (kinds : List LaidKind) (tests : Bool) (har : Bool × String) (lk g : Bool)
    (hc : c.holds p s) (hw : c.wfByText s = true) (htie : c.laidByTextAt Lk p kinds tests)
    (hst : c.start = .entering) (hnb : c.noBlocks = false ∧ c.again = false) (hm : p.checked.prog.mainIs = some (har.1, har.2.toList)) (hn : (!har.1 && har.2.isEmpty && !lk) = false)
    (hl : ∀ f fn, p.checked.prog.funcNamed c.func = some f → p.checked.prog.funcs[f]? = some fn → lk = p.checked.prog.looks [] ∧ ∀ (j : Nat) t, fn.params[j]? = some t → p.checked.prog.wantsStandIn t = false)
    (hg : g = c.goesBy p.checked.prog) :
    Claim7.holds p (.plain s) { stood := { row := c, standIns := [], harness := har, looks := lk }, kinds := [], alts := [], goes := g, laidByText := true, laidKinds := kinds, laidTests := tests, laidLooks := Lk } := by
  have h6 : ∀ r : OpenClaim, Claim7.isSixth { stood := { row := r, standIns := [], harness := har, looks := lk }, kinds := [] } = false := fun r => by simpa [Claim7.isSixth] using hn
  refine ⟨?_, fun D hD => (by cases hD), htie, (fun h => by cases h), hg⟩
  exact Claim7.tied_new_at Lk kinds tests (Claim7.new_of_sixth hc har lk hst hnb hm (h6 c) hl) hw
end Go.Vs
namespace Go.Proofs.YtebekndmhgmfbaaDoor
open Go.ChangeShapes Go.WideShapes Go.ChangeAt Go.RowKit Go.Vs
set_option maxRecDepth 100000
def laidF : List (String × DataW Unit) := [("veil/scalar.table", Rows.laid_veil_scalar_table)]
theorem tableOfF {W : World} (h : laidMetH Tryd.prog laidF W) : W.var? Tryd.prog "veil/scalar.table" = some tblV := by
  rw [MakeChecks.laidMetH_plain _ _ _ (by kernel_rfl)] at h
  exact tableCells h
theorem enters5 (xs : Array Value) (w : World) : (callFunc 5 xs).run Tryd.prog w = .ok (.enter 5 xs) w := by
  have h1 : Tryd.f5.name ≠ "runtime.NumGoroutine" := by have := Go.Vs.Tryd.nm5; simpa using this
  obtain ⟨c, hb, _⟩ := Option.bind_eq_some_iff.1 Go.Vs.Tryd.code5
  simp [callFunc, Tryd.func5, h1, hb]
theorem ownF : ownKnob Tryd.prog.godebug = none := by kernel_rfl
theorem len_of {W : World} {base i n m : Nat} {z : Bool} {v : Value} {ρ : Rho} (hok : Cell.okWide Tryd.prog W .any base 24 v) (ho : Go.Vs.Tryd.Ok n m z) (hc : conc ρ (Go.Vs.Tryd.ivl i n m z) = some v) : n < 9223372036854775808 := by
  cases z with
  | true => have := ho.2 rfl; omega
  | false =>
    simp only [Go.Vs.Tryd.ivl, Bool.false_eq_true, if_false, conc, Option.map_eq_some_iff] at hc
    obtain ⟨p, _, rfl⟩ := hc
    unfold Cell.okWide at hok
    rw [u24] at hok
    unfold Cell.ok at hok
    rw [u24] at hok
    have h2 : (m : Int) ≤ IntKind.i64.max := hok.2.1
    have h3 : IntKind.i64.max = 9223372036854775807 := by decide
    have := ho.1
    omega
theorem cells24 {W : World} {base : Nat} {v : Value} (hok : Cell.okWide Tryd.prog W .any base 24 v) : v.cells.toList = [v] := by
  unfold Cell.okWide at hok
  rw [u24] at hok
  cases v <;> first | rfl | skip
  unfold Cell.ok at hok
  rw [u24] at hok
  exact hok.elim
theorem lifted5 (os : Os) (started : os.Started) (H : Type) (enc : TypeId × Value → H) :
    ReturnsInHanded {} Tryd.checked os 5 .any (fun w args => (Rows.ipaFoldsSpec.pre enc Tryd.prog Tryd.f5 [] false w args ∧ laidMetH Tryd.prog laidF w) ∧ sizedMet enc Tryd.prog Tryd.f5 (OpenSpec.ofChange Rows.ipaFoldsSpec) false w args)
      (Rows.ipaFoldsSpec.post enc Tryd.prog Tryd.f5 false true false false) := by
  refine returnsInHanded_of_change_and (C := Tryd.checked) (X := fun w _ => laidMetH Tryd.prog laidF w) (fun _ _ _ hh h => h.of_heap hh) ownF started (by kernel_rfl) Tryd.func5
    (ChangeSpec.witness_shaped (enc := enc) (C := Tryd.checked) (os := os) (X := fun w _ => laidMetH Tryd.prog laidF w) false (World.laidAll Tryd.prog os laidF)
      #[.slice none 0 0, .slice none 0 0, .slice none 0 0] 8 (World.laidAll_os _ _ _)
      (World.shaped_of_ZipB (by kernel_rfl) (by kernel_rfl)) (by kernel_rfl) (by kernel_rfl) (by kernel_rfl)
      (by rw [MakeChecks.laidMetH_plain _ _ _ (by kernel_rfl)]; exact laidMet_laidAll _ (by kernel_rfl) (by kernel_rfl))) ?_
  intro W base args ds gs before hval0 hW _ _ hL _
  have hval : ∀ (j : Nat) t v, Tryd.f5.params[j]? = some t → args[j]? = some v → Value.okWide Tryd.prog W .any base t v := hval0
  have hW' := hW
  obtain ⟨p, q, hA0, hV, rfl, _, _⟩ := hW
  have hA : DataW.TrodAll enc Tryd.prog W 0 (fun _ => true) true Tryd.f5.params.toList args.toList ds p := hA0
  rw [Tryd.params5] at hA hval
  obtain ⟨v0, v1, v2, d0, d1, d2, p0, p1, p2, rfl, rfl, rfl, h0, h1, h2⟩ := trodAll_three hA
  obtain ⟨rfl, rfl⟩ := trodVars_none hV
  have hGl := globs_of (tableOfF hL)
  have cell : ∀ (j : Nat) v, #[v0, v1, v2][j]? = some v → j < 3 → Cell.okWide Tryd.prog W .any base 24 v := by
    intro j v hv hj
    have := hval j 24 v (by match j, hj with | 0, _ | 1, _ | 2, _ => rfl) hv
    unfold Value.okWide at this
    rw [u24] at this
    exact this
  have k0 := cell 0 v0 rfl (by omega)
  have k1 := cell 1 v1 rfl (by omega)
  have k2 := cell 2 v2 rfl (by omega)
  have h0' := h0
  have h1' := h1
  have h2' := h2
  obtain ⟨n0, e0⟩ := h0
  obtain ⟨n1, e1⟩ := h1
  obtain ⟨n2, e2⟩ := h2
  rw [cells24 k0] at e0
  rw [cells24 k1] at e1
  rw [cells24 k2] at e2
  obtain ⟨g, nG, mG, zG, pG, oG, bG, rG, cG⟩ := Go.Vs.Tryd.slice_of u24 u23 u22 c22 c23 k0 e0
  obtain ⟨h, nH, mH, zH, pH, oH, bH, rH, cH⟩ := Go.Vs.Tryd.slice_of u24 u23 u22 c22 c23 k1 e1
  obtain ⟨u, nU, mU, zU, pU, oU, bU, rU, cU⟩ := Go.Vs.Tryd.slice_of u24 u23 u22 c22 c23 k2 e2
  have hs : Sim GT [pG, pH, pU] [Go.Vs.Tryd.ivb g nG zG, Go.Vs.Tryd.ivb h nH zH, Go.Vs.Tryd.ivb u nU zU] W := by
    refine Go.Vs.Tryd.sim_ro hGl rfl fun i b hi => ?_
    match i with
    | 0 => cases hi; exact rG
    | 1 => cases hi; exact rH
    | 2 => cases hi; exact rU
    | n + 3 => simp at hi
  have c0 := cG [pG, pH, pU] 0 rfl
  have c1 := cH [pG, pH, pU] 1 rfl
  have c2 := cU [pG, pH, pU] 2 rfl
  have hv := Go.Vs.Tryd.law5 (G := GT) rfl g h u bG bH bU nG mG nH mH nU mU zG zH zU oG oH oU (len_of k0 oG c0) (len_of k1 oH c1) (len_of k2 oU c2)
  simp only [List.append_nil] at hW'
  have hlt : ∀ x ∈ p0 ++ p1 ++ p2, x.block < W.heap.size := fun x hx => hW'.lt x hx
  refine (Go.Vs.Tryd.calls_of (vs := [v0, v1, v2]) (r := .bool true) enters5 ?_ hv hs (by simp only [concs, c0, c1, c2]; rfl) (fun _ => rfl)).mono fun e W' ⟨he, hb⟩ => ?_
  · intro x hx
    simp only [List.mem_cons, List.not_mem_nil, or_false] at hx
    rcases hx with rfl | rfl | rfl <;> exact Go.Vs.Tryd.wrB_ivb ..
  subst he
  have bl : ∀ {v d p}, DataW.Trod enc Tryd.prog W 0 (fun _ => true) true 24 v d p → (∀ x ∈ p, x.block < W.heap.size) → DataW.Trod enc Tryd.prog W' 0 (fun b => decide (b < W.heap.size)) true 24 v d p := fun h hl => Below.trod (show laidOutB Tryd.prog = true by kernel_rfl) (by kernel_rfl) (of_decide_eq_true (by kernel_rfl)) h hb hl
  exact ⟨_, rfl, _, _, _, [], _, [], hW', trodAll_mk1 (shut_bool Tryd.underlying4 _), trodAll_mk3 (bl h0' fun x hx => hlt x (by simp [hx])) (bl h1' fun x hx => hlt x (by simp [hx])) (bl h2' fun x hx => hlt x (by simp [hx])), rfl, hb.frame _, fun h => by cases h⟩
theorem row_holds : Rows.IpaFoldsSaid :=
  OpenClaim.holds_of_wide_leaving 5 Tryd.f5 rfl rfl rfl rfl rfl rfl rfl ⟨rfl, rfl, rfl, rfl, rfl⟩ rfl rfl rfl rfl rfl (by kernel_rfl) Tryd.func5 (by kernel_rfl)
    (of_decide_eq_true (by kernel_rfl)) (by unfold Func.isWrapper; first | (rw [if_pos (by decide +kernel)]; kernel_rfl) | (rw [if_neg (by decide +kernel)]; exact ⟨rfl, rfl⟩))
    (fun os started H enc _ => leavingWide_of_handed (lifted5 os started H enc))
theorem card_holds : Rows.IpaFoldsCardSaid :=
  holds_tied_goes .later [.data] true (true, "e7b2dc34eb24a75de1937d354b257480441d75086bc927952eaf1758129a8485") true true row_holds (by kernel_rfl) ipaFolds_row_tie rfl ⟨rfl, rfl⟩ (by kernel_rfl) rfl
    (fun f fn hf hfn => by
      obtain rfl : f = 5 := Option.some.inj ((show Tryd.prog.funcNamed "veil/veillaw12.IpaFolds" = some 5 by kernel_rfl).symm.trans hf) |>.symm
      obtain rfl : fn = Tryd.f5 := (Option.some.inj (Tryd.func5.symm.trans hfn)).symm
      exact ⟨by kernel_rfl, fun j t ht => by
        rw [Tryd.params5] at ht
        have hm : t ∈ [24, 24, 24] := by simpa using Array.mem_of_getElem? ht
        have hall : ([24, 24, 24].all fun u => !Tryd.prog.wantsStandIn u) = true := by kernel_rfl
        exact (show Tryd.prog.wantsStandIn t = false by simpa using List.all_eq_true.1 hall t hm)⟩)
    (by kernel_rfl)
end Go.Proofs.YtebekndmhgmfbaaDoor
