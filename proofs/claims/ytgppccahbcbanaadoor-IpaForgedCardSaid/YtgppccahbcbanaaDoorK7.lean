/- Text 7 of 11 of this claim: a machine of plain values beside the model, what the functions of the program and of the reference answer over it, and last the row and its card. -/
import Derived.Test.YtgppccahbcbanaaDoorK4
import Derived.Test.YtgppccahbcbanaaDoorK6
set_option linter.unusedVariables false
set_option linter.unusedSimpArgs false
namespace Go.Vs
def row : Nat → (Nat → List V) → List V
  | 0, _ => []
  | n + 1, e => row n e ++ e n
def upd {α : Type} (e : Nat → α) (i : Nat) (c : α) : Nat → α := fun j => if j = i then c else e j
theorem upd_same {α : Type} (e : Nat → α) (i : Nat) (c : α) : upd e i c i = c := if_pos rfl
theorem upd_ne {α : Type} {e : Nat → α} {i j : Nat} {c : α} (h : j ≠ i) : upd e i c j = e j := if_neg h
theorem row_len {s : Nat} {e : Nat → List V} (hs : ∀ j, (e j).length = s) : ∀ n, (row n e).length = n * s
  | 0 => by simp [row]
  | n + 1 => by rw [row, List.length_append, row_len hs n, hs, Nat.succ_mul]
theorem row_congr {e e' : Nat → List V} : ∀ {n : Nat}, (∀ j, j < n → e j = e' j) → row n e = row n e'
  | 0, _ => rfl
  | n + 1, h => by rw [row, row, row_congr (n := n) fun j hj => h j (by omega), h n (Nat.lt_succ_self n)]
theorem row_get {s : Nat} {e : Nat → List V} (hs : ∀ j, (e j).length = s) (rest : List V) : ∀ {n i : Nat}, i < n → ((row n e ++ rest).drop (i * s)).take s = e i
  | 0, i, h => by omega
  | n + 1, i, h => by
    rw [row, List.append_assoc]
    by_cases hi : i = n
    · subst hi
      rw [List.drop_append_of_le_length (by rw [row_len hs]; exact Nat.le_refl _), List.drop_eq_nil_of_le (by rw [row_len hs]; exact Nat.le_refl _), List.nil_append]
      rw [List.take_append_of_le_length (by rw [hs]; exact Nat.le_refl _), List.take_of_length_le (by rw [hs]; exact Nat.le_refl _)]
    · exact row_get hs _ (by omega)
theorem row_get' {s : Nat} {e : Nat → List V} (hs : ∀ j, (e j).length = s) {n i : Nat} (h : i < n) : ((row n e).drop (i * s)).take s = e i := by
  have := row_get hs [] h
  rwa [List.append_nil] at this
theorem splice_append {a b cs : List V} {o : Nat} (h : o + cs.length ≤ a.length) : splice (a ++ b) o cs = splice a o cs ++ b := by
  unfold splice
  rw [List.take_append_of_le_length (by omega), List.drop_append_of_le_length (by omega), List.append_assoc, List.append_assoc, List.append_assoc]
theorem row_set {s : Nat} {e : Nat → List V} (hs : ∀ j, (e j).length = s) {cs : List V} (hc : cs.length = s) : ∀ {n i : Nat}, i < n → splice (row n e) (i * s) cs = row n (upd e i cs)
  | 0, i, h => by omega
  | n + 1, i, h => by
    by_cases hi : i = n
    · subst hi
      rw [row, row, upd_same]
      unfold splice
      rw [List.take_append_of_le_length (by rw [row_len hs]; exact Nat.le_refl _), List.take_of_length_le (by rw [row_len hs]; exact Nat.le_refl _)]
      rw [List.drop_eq_nil_of_le (by rw [List.length_append, row_len hs, hs, hc]; exact Nat.le_refl _), List.append_nil]
      congr 1
      exact row_congr fun j hj => (upd_ne (by omega)).symm
    · have : (i + 1) * s ≤ n * s := Nat.mul_le_mul_right s (by omega)
      rw [Nat.succ_mul] at this
      rw [row, row, upd_ne (fun e => hi e.symm), splice_append (by rw [row_len hs, hc]; exact this), row_set hs hc (by omega)]
theorem row_all {p : V → Bool} {e : Nat → List V} (h : ∀ j, (e j).all p = true) : ∀ n, (row n e).all p = true
  | 0 => rfl
  | n + 1 => by rw [row, List.all_append, row_all h n, h]; rfl
theorem row_rens {g : Nat → Nat} {e : Nat → List V} (h : ∀ j, rens g (e j) = e j) : ∀ n, rens g (row n e) = row n e
  | 0 => rfl
  | n + 1 => by rw [row, rens_append, row_rens h n, h]
theorem row_zero (z : List V) : ∀ n, (List.replicate n z).flatten = row n fun _ => z
  | 0 => rfl
  | n + 1 => by rw [row, ← row_zero z n, List.replicate_succ', List.flatten_concat]
theorem fit_rens (g : Nat → Nat) : ∀ l : List V, fit g l (rens g l)
  | [] => trivial
  | v :: l => ⟨.inr rfl, fit_rens g l⟩
theorem fit_same {g : Nat → Nat} {l : List V} (h : rens g l = l) : fit g l l := by
  have := fit_rens g l
  rwa [h] at this
theorem row_in {s n i : Nat} (h : i < n) : i * s + s ≤ n * s := by
  have : (i + 1) * s ≤ n * s := Nat.mul_le_mul_right s (by omega)
  rwa [Nat.succ_mul] at this
end Go.Vs
namespace Go.Vs.Tryd
open Go.Proofs
variable {G : Nat → List V}
set_option linter.unusedSimpArgs false
attribute [local go_sem] lenO_nils lenO_sl sliceAtV Int.sub_zero List.length_append List.all_append ge_iff_le gt_iff_lt Int.natCast_nonneg Int.toNat_natCast Nat.mul_one b_and_ll b_shr_ll b_mul_ll b_add_ll b_or_ll b_shl_ll pick_ll pick_lc pick_bb driveS stopV Option.isSome_some Option.isSome_none Kind.m Kind.w Kind.g look_ro look_rw look_grow drive stepV exo expo evs fillV isNil nilKind eqV eqL optA optM sliceAtV ev kn ldc stc splice appV srcV lenV setd wantV exitV rvs rv one List.length_cons List.length_nil List.cons_append List.nil_append List.append_nil List.replicate List.getD_cons_zero List.getD_cons_succ List.set_cons_zero List.set_cons_succ List.getElem?_cons_zero List.getElem?_cons_succ List.getElem?_nil List.take_succ_cons List.take_zero List.take_nil List.drop_succ_cons List.drop_zero List.drop_nil List.all_cons List.all_nil List.any_cons List.any_nil Bool.and_true Bool.true_and Bool.and_self Option.map_some Option.map_none Option.bind_some Option.some.injEq Nat.add_zero Nat.zero_add Int.toNat_zero Int.toNat_one Int.zero_add Int.add_zero if_true if_false ite_true ite_false and_true true_and and_self ne_eq not_false_eq_true not_true_eq_false decide_true decide_false Bool.false_eq_true Bool.not_true Bool.not_false beq_self_eq_true BEq.rfl Bool.not_eq_true Nat.le_refl Int.le_refl Nat.zero_le List.foldl List.map_cons List.map_nil Prod.mk.injEq Int.cast_ofNat_Int Int.zero_le_ofNat b_add_cc b_add_cl b_add_lc b_mul_cc b_mul_cl b_mul_lc b_sub_cc b_sub_cl b_sub_lc b_and_cc b_and_cl b_and_lc b_or_cc b_or_cl b_or_lc b_xor_cc b_xor_cl b_xor_lc b_andNot_cc b_andNot_cl b_andNot_lc b_shr_cc b_shr_cl b_shr_lc b_shl_cc b_shl_cl b_shl_lc b_lss b_leq b_gtr b_geq b_add_i b_sub_i b_mul_i beq_cc beq_cl beq_lc beq_ll b_quo_i b_rem_i neg_u64 wrap_i64 driveD stepD idsAt idOf maskH_nil restore_nil restore_mask List.filterMap_nil List.filterMap_cons VOp.looks VOp.makes exA cells_agg cells_int cells_bool cells_str cells_nilp cells_ptr cells_glob cells_nils cells_sl cells_nilf cells_fn cells_nili cells_ifc known_agg known_tup known_int known_bool known_str known_nilp known_ptr known_glob known_nils known_sl known_nilf known_fn known_nili known_ifc known_unk one_agg one_tup one_int one_bool one_str one_nilp one_ptr one_glob one_nils one_sl one_nilf one_fn one_nili one_ifc asK_int asN_int asB_bool asS_str asG_agg asT_tup
attribute [local go_sem ↓] lc_len lc_take lc_drop lc_known lc_one lc_rens lc_cells lw_known lw_agg lw_asG
set_option maxRecDepth 100000
set_option maxHeartbeats 1000000
theorem lc4 (f : Nat → Nat) (j : Nat) : (lc (f j)).length = 4 := rfl
theorem lcr (f : Nat → Nat) (g : Nat → Nat) (j : Nat) : rens g (lc (f j)) = lc (f j) := lc_rens _ g
def scs (n : Nat) (f : Nat → Nat) : List V := row n fun j => lc (f j)
theorem scs_len (n : Nat) (f : Nat → Nat) : (scs n f).length = n * 4 := row_len (lc4 f) n
theorem scs_get' (n : Nat) (f : Nat → Nat) {i : Nat} (h : i < n) : ((scs n f).drop (i * 4)).take 4 = lc (f i) := row_get' (lc4 f) h
theorem scs_set (n : Nat) (f f' : Nat → Nat) {i v : Nat} (h : i < n) (hv : f' i = v) (hf : ∀ j, j < n → j ≠ i → f j = f' j) : (scs n f).take (i * 4) ++ lc v ++ (scs n f).drop (i * 4 + 4) = scs n f' := by
  show splice (scs n f) (i * 4) (lc v) = _
  unfold scs
  rw [row_set (lc4 f) rfl h]
  refine row_congr fun j hj => ?_
  by_cases e : j = i
  · subst e; rw [upd_same, hv]
  · rw [upd_ne e, hf j hj e]
theorem scs_congr {n : Nat} {f f' : Nat → Nat} (h : ∀ j, j < n → f j = f' j) : scs n f = scs n f' := row_congr fun j hj => by rw [h j hj]
theorem scs_zero (n : Nat) : (List.replicate n [V.int .u64 (nl 0), V.int .u64 (nl 0), V.int .u64 (nl 0), V.int .u64 (nl 0)]).flatten = scs n fun _ => 0 := (row_zero _ n).trans (row_congr fun _ _ => lc_zero)
theorem scs_known (n : Nat) (f : Nat → Nat) : (scs n f).all V.known = true := row_all (fun j => lc_known _) n
theorem scs_one (n : Nat) (f : Nat → Nat) : (scs n f).all V.one = true := row_all (fun j => lc_one _) n
theorem scs_rens (n : Nat) (f g : Nat → Nat) : rens g (scs n f) = scs n f := row_rens (lcr f g) n
theorem scs_fit (n : Nat) (f g : Nat → Nat) : fit g (scs n f) (scs n f) := fit_same (scs_rens n f g)
theorem scs_in (n : Nat) (f : Nat → Nat) {i : Nat} (h : i < n) : (i * 4 + 4 ≤ (scs n f).length) = True := eq_true (by rw [scs_len]; exact row_in h)
end Go.Vs.Tryd
namespace Go.Vs.Tryd
open Go.Proofs
variable {G : Nat → List V}
set_option linter.unusedSimpArgs false
attribute [local go_sem] lenO_nils lenO_sl sliceAtV Int.sub_zero List.length_append List.all_append ge_iff_le gt_iff_lt Int.natCast_nonneg Int.toNat_natCast Nat.mul_one b_and_ll b_shr_ll b_mul_ll b_add_ll b_or_ll b_shl_ll pick_ll pick_lc pick_bb driveS stopV Option.isSome_some Option.isSome_none Kind.m Kind.w Kind.g look_ro look_rw look_grow drive stepV exo expo evs fillV isNil nilKind eqV eqL optA optM sliceAtV ev kn ldc stc splice appV srcV lenV setd wantV exitV rvs rv one List.length_cons List.length_nil List.cons_append List.nil_append List.append_nil List.replicate List.getD_cons_zero List.getD_cons_succ List.set_cons_zero List.set_cons_succ List.getElem?_cons_zero List.getElem?_cons_succ List.getElem?_nil List.take_succ_cons List.take_zero List.take_nil List.drop_succ_cons List.drop_zero List.drop_nil List.all_cons List.all_nil List.any_cons List.any_nil Bool.and_true Bool.true_and Bool.and_self Option.map_some Option.map_none Option.bind_some Option.some.injEq Nat.add_zero Nat.zero_add Int.toNat_zero Int.toNat_one Int.zero_add Int.add_zero if_true if_false ite_true ite_false and_true true_and and_self ne_eq not_false_eq_true not_true_eq_false decide_true decide_false Bool.false_eq_true Bool.not_true Bool.not_false beq_self_eq_true BEq.rfl Bool.not_eq_true Nat.le_refl Int.le_refl Nat.zero_le List.foldl List.map_cons List.map_nil Prod.mk.injEq Int.cast_ofNat_Int Int.zero_le_ofNat b_add_cc b_add_cl b_add_lc b_mul_cc b_mul_cl b_mul_lc b_sub_cc b_sub_cl b_sub_lc b_and_cc b_and_cl b_and_lc b_or_cc b_or_cl b_or_lc b_xor_cc b_xor_cl b_xor_lc b_andNot_cc b_andNot_cl b_andNot_lc b_shr_cc b_shr_cl b_shr_lc b_shl_cc b_shl_cl b_shl_lc b_lss b_leq b_gtr b_geq b_add_i b_sub_i b_mul_i beq_cc beq_cl beq_lc beq_ll b_quo_i b_rem_i neg_u64 wrap_i64 driveD stepD idsAt idOf maskH_nil restore_nil restore_mask List.filterMap_nil List.filterMap_cons VOp.looks VOp.makes exA cells_agg cells_int cells_bool cells_str cells_nilp cells_ptr cells_glob cells_nils cells_sl cells_nilf cells_fn cells_nili cells_ifc known_agg known_tup known_int known_bool known_str known_nilp known_ptr known_glob known_nils known_sl known_nilf known_fn known_nili known_ifc known_unk one_agg one_tup one_int one_bool one_str one_nilp one_ptr one_glob one_nils one_sl one_nilf one_fn one_nili one_ifc asK_int asN_int asB_bool asS_str asG_agg asT_tup
attribute [local go_sem_proc] Nat.reduceAdd Nat.reduceSub Nat.reduceLeDiff Nat.reduceMul Nat.reduceLT Nat.reduceEqDiff Int.reduceLT Int.reduceLE Int.reduceAdd Int.reduceSub Int.reduceMul Int.reduceToNat reduceIte reduceCtorEq Nat.reduceBEq
section
attribute [local go_sem ↓] lc_len lc_take lc_drop lc_known lc_one lc_rens lc_cells lw_known lw_agg lw_asG scs_known scs_one scs_len
set_option maxRecDepth 100000
set_option maxHeartbeats 1000000
theorem bool_tf : (true == false) = false := rfl
theorem bool_ft : (false == true) = false := rfl
attribute [local go_sem] bool_tf bool_ft
theorem shl_one (k : Nat) (hk : k ≤ 10) : binI .shl .i64 1 .i64 (k : Int) = some (.int .i64 ((2 ^ k : Nat) : Int)) := by
  have : k = 0 ∨ k = 1 ∨ k = 2 ∨ k = 3 ∨ k = 4 ∨ k = 5 ∨ k = 6 ∨ k = 7 ∨ k = 8 ∨ k = 9 ∨ k = 10 := by omega
  rcases this with rfl | rfl | rfl | rfl | rfl | rfl | rfl | rfl | rfl | rfl | rfl <;> rfl
def av (n : Nat) : Int := bits .and .i64 (n : Int) ((n : Int) - 1)
theorem av_all : ((List.range 1025).all fun n => Nat.beq n 0 || ((List.range 11).any (fun k => Nat.beq n (2 ^ k)) == decide (av n = 0))) = true := by decide +kernel
theorem av_pow {n : Nat} (h1 : 1 ≤ n) (h2 : n ≤ 1024) : (av n = 0) ↔ ∃ k : Nat, k ≤ 10 ∧ n = 2 ^ k := by
  have h := List.all_eq_true.1 av_all n (by rw [List.mem_range]; omega)
  rw [Bool.or_eq_true] at h
  rcases h with h | h
  · have := Nat.eq_of_beq_eq_true h; omega
  · have h := eq_of_beq h
    constructor
    · intro e
      rw [decide_eq_true e, List.any_eq_true] at h
      obtain ⟨k, hk, e⟩ := h
      rw [List.mem_range] at hk
      exact ⟨k, by omega, Nat.eq_of_beq_eq_true e⟩
    · rintro ⟨k, hk, e⟩
      have : (List.range 11).any (fun k => Nat.beq n (2 ^ k)) = true := List.any_eq_true.2 ⟨k, by rw [List.mem_range]; omega, by rw [e]; exact Nat.beq_refl _⟩
      rw [this] at h
      exact of_decide_eq_true h.symm
theorem b_and_av (n : Nat) : binI .and .i64 (n : Int) .i64 ((n : Int) - 1) = some (.int .i64 (av n)) := by simp only [binI, if_true, av]
theorem rounds_loop (K : Nat) (hK : K ≤ 10) {Q : V → Heap → Prop} (hQ : Q (.tup [.int .i64 K, .bool true]) []) : ∀ m k, k + m = K →
    Run Tryd.prog G 34 0 Q ([.l v34_7, .b 0, .c (.seq (.reg v34_9) .ret)], ⟨[.int .i64 ((2 ^ K : Nat) : Int), .unk, .int .i64 0, .bool false, .int .i64 k] ++ List.replicate 20 .unk, []⟩)
  | 0, k, h => by
    obtain rfl : k = K := by omega
    have hs := shl_one k hK
    have h0 : (((2 ^ k : Nat) : Int) < ((2 ^ k : Nat) : Int)) = False := eq_false (by omega)
    refine run_loop_eq v34_7.eq_1 ?_
    refine run_driveS 80 ?_
    simp only [go_sem, v34_4, hs, h0]
    refine run_exit rfl ?_
    refine run_driveS 80 ?_
    simp only [go_sem, v34_9]
    refine run_ret_drop Tryd.func34 res34 [] (.tup [.int .i64 k, .bool true]) [] rfl (by simp) trivial (by simp [uniq]) ?_ hQ
    simp only [go_sem, rr34, ren, rens]
  | m + 1, k, h => by
    have ih := rounds_loop K hK hQ m (k + 1) (by omega)
    have hs := shl_one k (by omega)
    have hlt : 2 ^ k < 2 ^ K := Nat.pow_lt_pow_right (by decide) (by omega)
    have h0 : (((2 ^ k : Nat) : Int) < ((2 ^ K : Nat) : Int)) = True := eq_true (by omega)
    have hw : IntKind.i64.wrap ((k : Int) + 1) = ((k + 1 : Nat) : Int) := by rw [wrap_i64 (by omega) (by omega)]; omega
    refine run_loop_eq v34_7.eq_1 ?_
    refine run_driveS 80 ?_
    simp only [go_sem, v34_4, v34_6, v34_5, hs, h0, hw]
    refine run_rename [] rfl (by simp) ?_ ?_ ?_ ih
    · simp only [go_sem, hfit, lc_fit, scs_fit, fit, ren, gmap, lw_plain, true_or, or_true]
    · simp [uniq]
    · simp only [go_sem, hfit, lc_fit, scs_fit, fit, ren, gmap, lw_plain, true_or, or_true]
theorem rounds_ (n : Nat) (hn : n < 1000000) {h : Heap} {R : V → Heap → Prop} (hQ1 : ∀ k : Nat, k ≤ 10 → n = 2 ^ k → R (.tup [.int .i64 k, .bool true]) h) (hQ2 : (∀ k : Nat, k ≤ 10 → n ≠ 2 ^ k) → R (.tup [.int .i64 0, .bool false]) h) : VCall Tryd.prog G 34 [.int .i64 n] h R := by
  refine vcall_plain (Q := fun v => (∃ k : Nat, k ≤ 10 ∧ n = 2 ^ k ∧ v = .tup [.int .i64 k, .bool true]) ∨ ((∀ k : Nat, k ≤ 10 → n ≠ 2 ^ k) ∧ v = .tup [.int .i64 0, .bool false])) ?_ (fun g => by simp only [rens, ren]) ?_ ?_
  · refine vcall_body Tryd.func34 nm34 code34 nt34 ?_
    have hw : IntKind.i64.wrap ((n : Int) - 1) = (n : Int) - 1 := wrap_i64 (by omega) (by omega)
    have ha := b_and_av n
    by_cases h1 : n < 1
    · have c1 : ((n : Int) < 1) = True := eq_true (by omega)
      refine run_driveS 80 ?_
      simp only [go_sem, v34, v34_0, v34_1, c1]
      refine run_cond_t (by rfl) ?_
      refine run_driveS 80 ?_
      simp only [go_sem, v34_2]
      refine run_ret_drop Tryd.func34 res34 [] (.tup [.int .i64 0, .bool false]) [] rfl (by simp) trivial (by simp [uniq]) ?_ ⟨.inr ⟨fun k _ e => by have := Nat.two_pow_pos k; omega, rfl⟩, rfl⟩
      simp only [go_sem, rr34, ren, rens]
    · have c1 : ((n : Int) < 1) = False := eq_false (by omega)
      by_cases h2 : 1024 < n
      · have c2 : ((1024 : Int) < (n : Int)) = True := eq_true (by omega)
        refine run_driveS 80 ?_
        simp only [go_sem, v34, v34_0, v34_1, c1, c2]
        refine run_cond_t (by rfl) ?_
        refine run_driveS 80 ?_
        simp only [go_sem, v34_2]
        refine run_ret_drop Tryd.func34 res34 [] (.tup [.int .i64 0, .bool false]) [] rfl (by simp) trivial (by simp [uniq]) ?_ ⟨.inr ⟨fun k hk e => by have : 2 ^ k ≤ 2 ^ 10 := Nat.pow_le_pow_right (by decide) hk; omega, rfl⟩, rfl⟩
        simp only [go_sem, rr34, ren, rens]
      · have c2 : ((1024 : Int) < (n : Int)) = False := eq_false (by omega)
        by_cases h3 : ∃ k : Nat, k ≤ 10 ∧ n = 2 ^ k
        · have c3 : (av n == 0) = true := by rw [beq_iff_eq]; exact (av_pow (by omega) (by omega)).2 h3
          refine run_driveS 80 ?_
          simp only [go_sem, v34, v34_0, v34_1, c1, c2, hw, ha, c3]
          refine run_cond_f (by rfl) ?_
          refine run_driveS 80 ?_
          simp only [go_sem, v34_3, v34_8]
          obtain ⟨k, hk, rfl⟩ := h3
          refine run_rename [] rfl (by simp) ?_ ?_ ?_ (rounds_loop k hk ⟨.inl ⟨k, hk, rfl, rfl⟩, rfl⟩ k 0 (by omega))
          · simp only [go_sem, hfit, lc_fit, scs_fit, fit, ren, gmap, lw_plain, true_or, or_true]
          · simp [uniq]
          · simp only [go_sem, hfit, lc_fit, scs_fit, fit, ren, gmap, lw_plain, true_or, or_true]
        · have c3 : (av n == 0) = false := by
            rw [beq_eq_false_iff_ne]
            exact fun e => h3 ((av_pow (by omega) (by omega)).1 e)
          refine run_driveS 80 ?_
          simp only [go_sem, v34, v34_0, v34_1, c1, c2, hw, ha, c3]
          refine run_cond_t (by rfl) ?_
          refine run_driveS 80 ?_
          simp only [go_sem, v34_2]
          refine run_ret_drop Tryd.func34 res34 [] (.tup [.int .i64 0, .bool false]) [] rfl (by simp) trivial (by simp [uniq]) ?_ ⟨.inr ⟨fun k hk e => h3 ⟨k, hk, e⟩, rfl⟩, rfl⟩
          simp only [go_sem, rr34, ren, rens]
  · rintro v g (⟨k, _, _, rfl⟩ | ⟨_, rfl⟩) <;> rfl
  · rintro v (⟨k, hk, e, rfl⟩ | ⟨hz, rfl⟩)
    · exact hQ1 k hk e
    · exact hQ2 hz
end
section
attribute [local go_sem ↓] lc_len lc_take lc_drop lc_known lc_one lc_rens lc_cells lw_known lw_agg lw_asG scs_known scs_one scs_len
set_option maxRecDepth 100000
set_option maxHeartbeats 1000000
theorem sub_ (hG : G 0 = tbl) (A B : Nat) (hA : A < 115792089237316195423570985008687907853269984665640564039457584007913129639936) (hB : B < 115792089237316195423570985008687907853269984665640564039457584007913129639936) {h : Heap} {R : V → Heap → Prop} (hQ : R (lw ((A + (ell - B % ell)) % ell)) h) : VCall Tryd.prog G 19 [lw A, lw B] h R := by
  refine vcall_plain (Q := fun v => v = lw ((A + (ell - B % ell)) % ell)) ?_ (fun g => by simp only [rens, lw_plain]) (fun v g hv => by subst hv; exact lw_plain _ g) (fun v hv => by subst hv; exact hQ)
  have h2 : ell + ell < 115792089237316195423570985008687907853269984665640564039457584007913129639936 := by decide
  refine vcall_body Tryd.func19 nm19 code19 nt19 ?_
  refine run_driveS 80 ?_
  simp only [go_sem, v19, v19_0]
  refine run_drw (by kernel_rfl) ?_
  refine drun_drive 40 (p := (_, _)) ?_
  simp only [go_sem, v19_1]
  refine drun_call' ?_
  simp only [go_sem, calV]
  refine least' hG A hA ?_
  refine drun_drive 40 (p := (_, _)) ?_
  simp only [go_sem]
  refine drun_call' ?_
  simp only [go_sem, calV]
  refine least' hG B hB ?_
  refine drun_drive 40 (p := (_, _)) ?_
  simp only [go_sem]
  refine drun_call' ?_
  simp only [go_sem, calV]
  refine minus' _ _ (mod_lt A) (mod_lt B) fun D b hD hb he => ?_
  unfold u
  refine drun_drive 40 (p := (_, _)) ?_
  simp only [go_sem]
  refine drun_end ?_
  refine run_driveS 80 ?_
  simp only [go_sem, v19_2, hG, tbl, lw_ell]
  refine run_call' rfl ?_
  simp only [go_sem, calV]
  refine plus' D ell hD ell_lt fun E c hE hc hp => ?_
  unfold u
  refine run_driveS 80 ?_
  simp only [go_sem, v19_3]
  refine run_call' rfl ?_
  simp only [go_sem, calV]
  refine choose' (decide (b = 1)) E D _ (mask_of hb) ?_
  have hR : (if decide (b = 1) = true then lw E else lw D) = lw ((A + (ell - B % ell)) % ell) := by
    have ha := mod_lt' A
    have hb' := mod_lt' B
    have e1 : (A + (ell - B % ell)) % ell = (A % ell + (ell - B % ell)) % ell := (Nat.mod_add_mod A ell _).symm
    rw [e1]
    by_cases h1 : b = 1
    · rw [if_pos (by simpa using h1), Nat.mod_eq_of_lt (by omega)]
      exact congrArg lw (by omega)
    · rw [if_neg (by simpa using h1), Nat.mod_eq_sub_mod (by omega), Nat.mod_eq_of_lt (by omega)]
      exact congrArg lw (by omega)
  rw [hR]
  refine run_driveS 80 ?_
  simp only [go_sem]
  refine run_ret_drop Tryd.func19 res19 [] (lw ((A + (ell - B % ell)) % ell)) [] rfl (by simp) trivial (by simp [uniq]) ?_ ⟨rfl, rfl⟩
  simp only [go_sem, rr19, lw_plain]
theorem add_ (hG : G 0 = tbl) (A B : Nat) (hA : A < 115792089237316195423570985008687907853269984665640564039457584007913129639936) (hB : B < 115792089237316195423570985008687907853269984665640564039457584007913129639936) {h : Heap} {R : V → Heap → Prop} (hQ : R (lw ((A + B) % ell)) h) : VCall Tryd.prog G 15 [lw A, lw B] h R := by
  refine vcall_plain (Q := fun v => v = lw ((A + B) % ell)) ?_ (fun g => by simp only [rens, lw_plain]) (fun v g hv => by subst hv; exact lw_plain _ g) (fun v hv => by subst hv; exact hQ)
  have h2 : ell + ell < 115792089237316195423570985008687907853269984665640564039457584007913129639936 := by decide
  have ha := mod_lt' A
  have hb' := mod_lt' B
  refine vcall_body Tryd.func15 nm15 code15 nt15 ?_
  refine run_driveS 80 ?_
  simp only [go_sem, v15, v15_0]
  refine run_drw (by kernel_rfl) ?_
  refine drun_drive 40 (p := (_, _)) ?_
  simp only [go_sem, v15_1]
  refine drun_call' ?_
  simp only [go_sem, calV]
  refine least' hG A hA ?_
  refine drun_drive 40 (p := (_, _)) ?_
  simp only [go_sem]
  refine drun_call' ?_
  simp only [go_sem, calV]
  refine least' hG B hB ?_
  refine drun_drive 40 (p := (_, _)) ?_
  simp only [go_sem]
  refine drun_call' ?_
  simp only [go_sem, calV]
  refine plus' _ _ (mod_lt A) (mod_lt B) fun D b hD hb he => ?_
  unfold u
  refine drun_drive 40 (p := (_, _)) ?_
  simp only [go_sem]
  refine drun_end ?_
  refine run_driveS 80 ?_
  simp only [go_sem, v15_2]
  refine run_call' rfl ?_
  simp only [go_sem, calV]
  refine lower' hG D hD ?_
  have hR : (if ell ≤ D then D - ell else D) = (A + B) % ell := by
    have e1 : (A + B) % ell = (A % ell + B % ell) % ell := Nat.add_mod A B ell
    rw [e1]
    have hb0 : b = 0 := by omega
    subst hb0
    by_cases h1 : ell ≤ D
    · rw [if_pos h1, Nat.mod_eq_sub_mod (by omega), Nat.mod_eq_of_lt (by omega)]; omega
    · rw [if_neg h1, Nat.mod_eq_of_lt (by omega)]; omega
  rw [hR]
  refine run_driveS 80 ?_
  simp only [go_sem]
  refine run_ret_drop Tryd.func15 res15 [] (lw ((A + B) % ell)) [] rfl (by simp) trivial (by simp [uniq]) ?_ ⟨rfl, rfl⟩
  simp only [go_sem, rr15, lw_plain]
end
end Go.Vs.Tryd
namespace Go.Vs.Tryd
open Go.Proofs
variable {G : Nat → List V}
set_option linter.unusedSimpArgs false
attribute [local go_sem] lenO_nils lenO_sl sliceAtV Int.sub_zero List.length_append List.all_append ge_iff_le gt_iff_lt Int.natCast_nonneg Int.toNat_natCast Nat.mul_one b_and_ll b_shr_ll b_mul_ll b_add_ll b_or_ll b_shl_ll pick_ll pick_lc pick_bb driveS stopV Option.isSome_some Option.isSome_none Kind.m Kind.w Kind.g look_ro look_rw look_grow drive stepV exo expo evs fillV isNil nilKind eqV eqL optA optM sliceAtV ev kn ldc stc splice appV srcV lenV setd wantV exitV rvs rv one List.length_cons List.length_nil List.cons_append List.nil_append List.append_nil List.replicate List.getD_cons_zero List.getD_cons_succ List.set_cons_zero List.set_cons_succ List.getElem?_cons_zero List.getElem?_cons_succ List.getElem?_nil List.take_succ_cons List.take_zero List.take_nil List.drop_succ_cons List.drop_zero List.drop_nil List.all_cons List.all_nil List.any_cons List.any_nil Bool.and_true Bool.true_and Bool.and_self Option.map_some Option.map_none Option.bind_some Option.some.injEq Nat.add_zero Nat.zero_add Int.toNat_zero Int.toNat_one Int.zero_add Int.add_zero if_true if_false ite_true ite_false and_true true_and and_self ne_eq not_false_eq_true not_true_eq_false decide_true decide_false Bool.false_eq_true Bool.not_true Bool.not_false beq_self_eq_true BEq.rfl Bool.not_eq_true Nat.le_refl Int.le_refl Nat.zero_le List.foldl List.map_cons List.map_nil Prod.mk.injEq Int.cast_ofNat_Int Int.zero_le_ofNat b_add_cc b_add_cl b_add_lc b_mul_cc b_mul_cl b_mul_lc b_sub_cc b_sub_cl b_sub_lc b_and_cc b_and_cl b_and_lc b_or_cc b_or_cl b_or_lc b_xor_cc b_xor_cl b_xor_lc b_andNot_cc b_andNot_cl b_andNot_lc b_shr_cc b_shr_cl b_shr_lc b_shl_cc b_shl_cl b_shl_lc b_lss b_leq b_gtr b_geq b_add_i b_sub_i b_mul_i beq_cc beq_cl beq_lc beq_ll b_quo_i b_rem_i neg_u64 wrap_i64 driveD stepD idsAt idOf maskH_nil restore_nil restore_mask List.filterMap_nil List.filterMap_cons VOp.looks VOp.makes exA cells_agg cells_int cells_bool cells_str cells_nilp cells_ptr cells_glob cells_nils cells_sl cells_nilf cells_fn cells_nili cells_ifc known_agg known_tup known_int known_bool known_str known_nilp known_ptr known_glob known_nils known_sl known_nilf known_fn known_nili known_ifc known_unk one_agg one_tup one_int one_bool one_str one_nilp one_ptr one_glob one_nils one_sl one_nilf one_fn one_nili one_ifc asK_int asN_int asB_bool asS_str asG_agg asT_tup
section
attribute [local go_sem ↓] lc_len lc_take lc_drop lc_known lc_one lc_rens lc_cells lw_known lw_agg lw_asG
set_option maxRecDepth 100000
set_option maxHeartbeats 1000000
theorem lt_nat (a b : Nat) : decide ((a : Int) < (b : Int)) = decide (a < b) := by
  rw [Bool.eq_iff_iff]; simp
theorem lt_natl (a b : Nat) : decide ((a : Int) < nl b) = decide (a < b) := lt_nat a b
theorem lt_lnat (a b : Nat) : decide (nl a < (b : Int)) = decide (a < b) := lt_nat a b
theorem lt_ll (a b : Nat) : decide (nl a < nl b) = decide (a < b) := lt_nat a b
attribute [local go_sem] lt_nat lt_natl lt_lnat lt_ll
end
section
attribute [local go_sem ↓] lc_len lc_take lc_drop lc_known lc_one lc_rens lc_cells lw_known lw_agg lw_asG
attribute [local go_sem] lt_nat lt_natl lt_lnat lt_ll
set_option maxRecDepth 100000
set_option maxHeartbeats 1000000
theorem lc_of {d0 d1 d2 d3 : Nat} (h0 : d0 < 18446744073709551616) (h1 : d1 < 18446744073709551616) (h2 : d2 < 18446744073709551616) (h3 : d3 < 18446744073709551616) :
    [V.int .u64 (d0 : Int), .int .u64 (d1 : Int), .int .u64 (d2 : Int), .int .u64 (d3 : Int)] = lc (d0 + 18446744073709551616 * d1 + 340282366920938463463374607431768211456 * d2 + 6277101735386680763835789423207666416102355444464034512896 * d3) := by
  have := lw_of h0 h1 h2 h3
  unfold lw at this
  injection this with this
  exact this.symm
end
section
attribute [local go_sem ↓] lc_len lc_take lc_drop lc_known lc_one lc_rens lc_cells lw_known lw_agg lw_asG
attribute [local go_sem] lt_nat lt_natl lt_lnat lt_ll
set_option maxRecDepth 100000
set_option maxHeartbeats 1000000
def hp (ws : Nat → Nat) (n : Nat) : Nat → Nat
  | 0 => 0
  | k + 1 => 65536 * hp ws n k + ws (n - 1 - k)
end
section
attribute [local go_sem ↓] lc_len lc_take lc_drop lc_known lc_one lc_rens lc_cells lw_known lw_agg lw_asG
attribute [local go_sem] lt_nat lt_natl lt_lnat lt_ll
set_option maxRecDepth 100000
set_option maxHeartbeats 1000000
def val (p : Nat → Nat) : Nat → Nat
  | 0 => 0
  | n + 1 => val p n + p n * 4294967296 ^ n
end
section
attribute [local go_sem ↓] lc_len lc_take lc_drop lc_known lc_one lc_rens lc_cells lw_known lw_agg lw_asG
attribute [local go_sem] lt_nat lt_natl lt_lnat lt_ll
set_option maxRecDepth 100000
set_option maxHeartbeats 1000000
def pz : List V := [.int .i64 0, .int .i64 0, .int .i64 0, .int .i64 0, .int .i64 0, .int .i64 0, .int .i64 0, .int .i64 0, .int .i64 0, .int .i64 0, .int .i64 0, .int .i64 0, .int .i64 0, .int .i64 0, .int .i64 0, .int .i64 0, .int .i64 0, .int .i64 0, .int .i64 0, .int .i64 0]
def ecs (k : Nat) : List V := .int .i64 2 :: (pz ++ (lc k ++ [.nils]))
def ew (k : Nat) : V := .agg (ecs k)
theorem ecs_len (k : Nat) : (ecs k).length = 26 := rfl
theorem ecs_take (k : Nat) : (ecs k).take 26 = ecs k := rfl
theorem ecs_drop (k : Nat) : (ecs k).drop 26 = [] := rfl
theorem ecs_known (k : Nat) : (ecs k).all V.known = true := rfl
theorem ecs_one (k : Nat) : (ecs k).all V.one = true := rfl
theorem ecs_rens (k : Nat) (g : Nat → Nat) : rens g (ecs k) = ecs k := by simp only [ecs, pz, rens, rens_append, lc_rens, ren]
theorem ecs_fit (g : Nat → Nat) (k : Nat) : fit g (ecs k) (ecs k) := fit_same (ecs_rens k g)
theorem ecs_cells (k : Nat) : cellsOf (ew k) = ecs k := rfl
theorem ew_known (k : Nat) : (ew k).known = true := rfl
theorem ew_agg (k : Nat) : V.agg (ecs k) = ew k := rfl
theorem ew_asG (k : Nat) : asG (ew k) = some (ecs k) := rfl
theorem ew_plain (k : Nat) (g : Nat → Nat) : ren g (ew k) = ew k := by simp only [ew, ren, ecs_rens]
theorem ecs_kind (k : Nat) : (ecs k).take 1 = [.int .i64 2] := rfl
theorem ecs_k (k : Nat) : ((ecs k).drop 21).take 4 = lc k := rfl
theorem ecs_l (k : Nat) : ((ecs k).drop 25).take 1 = [.nils] := rfl
attribute [local go_sem ↓] ecs_len ecs_take ecs_drop ecs_known ecs_one ecs_rens ecs_fit ecs_cells ew_known ew_agg ew_asG ecs_kind ecs_k ecs_l
end
section
attribute [local go_sem ↓] lc_len lc_take lc_drop lc_known lc_one lc_rens lc_cells lw_known lw_agg lw_asG scs_known scs_one scs_len
set_option maxRecDepth 100000
set_option maxHeartbeats 1000000
theorem lc_take_add (a k : Nat) (l : List V) : (lc a ++ l).take (k + 4) = lc a ++ l.take k := rfl
theorem lc_drop_add (a k : Nat) (l : List V) : (lc a ++ l).drop (k + 4) = l.drop k := rfl
attribute [local go_sem ↓] lc_take_add lc_drop_add
attribute [local go_sem] bool_tf bool_ft
def stL (P Q : Nat) (g h : V) : V := .agg (lc P ++ (lc Q ++ [g, h]))
theorem stL_ren (P Q : Nat) (x y : V) (g : Nat → Nat) : ren g (stL P Q x y) = stL P Q (ren g x) (ren g y) := by simp only [stL, ren, rens_append, lc_rens, rens]
def fv (n : Nat) (c : Cap) (i : Nat) : List V := [.unk, .unk, .sl 0 0 n c] ++ List.replicate 46 .unk ++ [.sl 0 0 n c, .int .i64 n, .int .i64 i] ++ List.replicate 6 .unk
end
section
attribute [local go_sem ↓] lc_len lc_take lc_drop lc_known lc_one lc_rens lc_cells lw_known lw_agg lw_asG
attribute [local go_sem] lt_nat lt_natl lt_lnat lt_ll
set_option maxRecDepth 100000
set_option maxHeartbeats 1000000
inductive In (f : Nat → Nat) : Nat → V → Option Blk → Prop
  | nil : In f 0 .nils none
  | sl (n m : Nat) (h : n ≤ m) : In f n (.sl 0 0 n (.exact m)) (some ⟨.ro, scs n f⟩)
end
section
attribute [local go_sem ↓] lc_len lc_take lc_drop lc_known lc_one lc_rens lc_cells lw_known lw_agg lw_asG scs_known scs_one scs_len
attribute [local go_sem] lt_nat lt_natl lt_lnat lt_ll
set_option maxRecDepth 100000
set_option maxHeartbeats 1000000
def dv (b : Nat) (n : Nat) : V := if n = 0 then .nils else .sl b 0 n (.grow 4)
def db (g : Nat → Nat) (n : Nat) : Option Blk := if n = 0 then none else some ⟨.grow, scs n g⟩
theorem dv_pos {b n : Nat} (h : 0 < n) : dv b n = .sl b 0 n (.grow 4) := if_neg (by omega)
theorem db_pos {g : Nat → Nat} {n : Nat} (h : 0 < n) : db g n = some ⟨.grow, scs n g⟩ := if_neg (by omega)
theorem scs_snoc (n : Nat) (g : Nat → Nat) {v : Nat} (h : g n = v) : scs n g ++ lc v = scs (n + 1) g := by subst h; rfl
end
section
attribute [local go_sem ↓] lc_len lc_take lc_drop lc_known lc_one lc_rens lc_cells lw_known lw_agg lw_asG scs_known scs_one scs_len
attribute [local go_sem] lt_nat lt_natl lt_lnat lt_ll bool_tf bool_ft
attribute [local go_sem ↓] ecs_len ecs_take ecs_drop ecs_known ecs_one ecs_rens ecs_fit ecs_cells ew_known ew_agg ew_asG ecs_kind ecs_k ecs_l
set_option maxRecDepth 100000
set_option maxHeartbeats 1000000
theorem ecs_take_add (a k : Nat) (l : List V) : (ecs a ++ l).take (k + 26) = ecs a ++ l.take k := rfl
theorem ecs_drop_add (a k : Nat) (l : List V) : (ecs a ++ l).drop (k + 26) = l.drop k := rfl
/- Elements, one behind the other; a slice of them that was grown by append; its block, read only. -/
theorem ecs26 (f : Nat → Nat) (j : Nat) : (ecs (f j)).length = 26 := rfl
def ers (n : Nat) (f : Nat → Nat) : List V := row n fun j => ecs (f j)
theorem ers_len (n : Nat) (f : Nat → Nat) : (ers n f).length = n * 26 := row_len (ecs26 f) n
theorem ers_known (n : Nat) (f : Nat → Nat) : (ers n f).all V.known = true := row_all (fun _ => rfl) n
theorem ers_one (n : Nat) (f : Nat → Nat) : (ers n f).all V.one = true := row_all (fun _ => rfl) n
theorem ers_rens (n : Nat) (f g : Nat → Nat) : rens g (ers n f) = ers n f := row_rens (fun j => ecs_rens _ g) n
theorem ers_fit (n : Nat) (f g : Nat → Nat) : fit g (ers n f) (ers n f) := fit_same (ers_rens n f g)
def de (b n : Nat) : V := if n = 0 then .nils else .sl b 0 n (.grow 26)
def eb (f : Nat → Nat) (n : Nat) : Option Blk := if n = 0 then none else some ⟨.ro, ers n f⟩
theorem lenO_de (b n : Nat) : lenO (de b n) = some n := by
  unfold de
  by_cases h : n = 0
  · rw [if_pos h, h]; rfl
  · rw [if_neg h]; rfl
theorem lenO_dv (b n : Nat) : lenO (dv b n) = some n := by
  unfold dv
  by_cases h : n = 0
  · rw [if_pos h, h]; rfl
  · rw [if_neg h]; rfl
theorem de_known (b n : Nat) : (de b n).known = true := by unfold de; split <;> rfl
theorem dv_known (b n : Nat) : (dv b n).known = true := by unfold dv; split <;> rfl
theorem de_one (b n : Nat) : (de b n).one = true := by unfold de; split <;> rfl
theorem dv_one (b n : Nat) : (dv b n).one = true := by unfold dv; split <;> rfl
theorem de_ren (b n : Nat) (g : Nat → Nat) : ren g (de b n) = de (g b) n := by unfold de; split <;> rfl
theorem dv_ren (b n : Nat) (g : Nat → Nat) : ren g (dv b n) = dv (g b) n := by unfold dv; split <;> rfl
attribute [local go_sem ↓] ecs_take_add ecs_drop_add lc_take_add lc_drop_add lenO_de lenO_dv de_known dv_known de_one dv_one de_ren dv_ren
end
end Go.Vs.Tryd
namespace Go.Vs.Tryd
open Go.Proofs
variable {G : Nat → List V}
set_option linter.unusedSimpArgs false
attribute [local go_sem] lenO_nils lenO_sl sliceAtV Int.sub_zero List.length_append List.all_append ge_iff_le gt_iff_lt Int.natCast_nonneg Int.toNat_natCast Nat.mul_one b_and_ll b_shr_ll b_mul_ll b_add_ll b_or_ll b_shl_ll pick_ll pick_lc pick_bb driveS stopV Option.isSome_some Option.isSome_none Kind.m Kind.w Kind.g look_ro look_rw look_grow drive stepV exo expo evs fillV isNil nilKind eqV eqL optA optM sliceAtV ev kn ldc stc splice appV srcV lenV setd wantV exitV rvs rv one List.length_cons List.length_nil List.cons_append List.nil_append List.append_nil List.replicate List.getD_cons_zero List.getD_cons_succ List.set_cons_zero List.set_cons_succ List.getElem?_cons_zero List.getElem?_cons_succ List.getElem?_nil List.take_succ_cons List.take_zero List.take_nil List.drop_succ_cons List.drop_zero List.drop_nil List.all_cons List.all_nil List.any_cons List.any_nil Bool.and_true Bool.true_and Bool.and_self Option.map_some Option.map_none Option.bind_some Option.some.injEq Nat.add_zero Nat.zero_add Int.toNat_zero Int.toNat_one Int.zero_add Int.add_zero if_true if_false ite_true ite_false and_true true_and and_self ne_eq not_false_eq_true not_true_eq_false decide_true decide_false Bool.false_eq_true Bool.not_true Bool.not_false beq_self_eq_true BEq.rfl Bool.not_eq_true Nat.le_refl Int.le_refl Nat.zero_le List.foldl List.map_cons List.map_nil Prod.mk.injEq Int.cast_ofNat_Int Int.zero_le_ofNat b_add_cc b_add_cl b_add_lc b_mul_cc b_mul_cl b_mul_lc b_sub_cc b_sub_cl b_sub_lc b_and_cc b_and_cl b_and_lc b_or_cc b_or_cl b_or_lc b_xor_cc b_xor_cl b_xor_lc b_andNot_cc b_andNot_cl b_andNot_lc b_shr_cc b_shr_cl b_shr_lc b_shl_cc b_shl_cl b_shl_lc b_lss b_leq b_gtr b_geq b_add_i b_sub_i b_mul_i beq_cc beq_cl beq_lc beq_ll b_quo_i b_rem_i neg_u64 wrap_i64 driveD stepD idsAt idOf maskH_nil restore_nil restore_mask List.filterMap_nil List.filterMap_cons VOp.looks VOp.makes exA cells_agg cells_int cells_bool cells_str cells_nilp cells_ptr cells_glob cells_nils cells_sl cells_nilf cells_fn cells_nili cells_ifc known_agg known_tup known_int known_bool known_str known_nilp known_ptr known_glob known_nils known_sl known_nilf known_fn known_nili known_ifc known_unk one_agg one_tup one_int one_bool one_str one_nilp one_ptr one_glob one_nils one_sl one_nilf one_fn one_nili one_ifc asK_int asN_int asB_bool asS_str asG_agg asT_tup
attribute [local go_sem_proc] Nat.reduceAdd Nat.reduceSub Nat.reduceLeDiff Nat.reduceMul Nat.reduceLT Nat.reduceEqDiff Int.reduceLT Int.reduceLE Int.reduceAdd Int.reduceSub Int.reduceMul Int.reduceToNat reduceIte reduceCtorEq Nat.reduceBEq
attribute [local go_sem ↓] lc_len lc_take lc_drop lc_known lc_one lc_rens lc_cells lw_known lw_agg lw_asG scs_known scs_one scs_len
attribute [local go_sem] lt_nat lt_natl lt_lnat lt_ll bool_tf bool_ft
set_option maxRecDepth 100000
set_option maxHeartbeats 1000000
theorem run_for {P : Program} {f : FuncId} {n : Nat} {md : Md} {Q : V → Heap → Prop} {k : List TI} (S : Nat → St) (N : Nat) (step : ∀ i, i < N → RunM P G f n md Q (k, S (i + 1)) → RunM P G f n md Q (k, S i)) (last : RunM P G f n md Q (k, S N)) : RunM P G f n md Q (k, S 0) := by
  have : ∀ j i, i + j = N → RunM P G f n md Q (k, S i) := by
    intro j
    induction j with
    | zero =>
      intro i h
      obtain rfl : i = N := (by omega)
      exact last
    | succ j ih => intro i h; exact step i (by omega) (ih (i + 1) (by omega))
  exact this N 0 (by omega)
theorem line_times (hG : G 0 = tbl) (A K : Nat) (hA : A < 115792089237316195423570985008687907853269984665640564039457584007913129639936) (hK : K < 115792089237316195423570985008687907853269984665640564039457584007913129639936) {h : Heap} {R : V → Heap → Prop} (hQ : R (lw (A * K % ell)) h) : VCall Tryd.prog G 107 [lw A, lw K] h R := by
  refine vcall_plain (Q := fun v => v = lw (A * K % ell)) ?_ (fun g => by simp only [rens, lw_plain, ew_plain, ren]) (fun v g hv => by subst hv; exact lw_plain _ g) (fun v hv => by subst hv; exact hQ)
  refine vcall_body Tryd.func107 nm107 code107 nt107 ?_
  refine run_driveS 80 ?_
  simp only [go_sem, v107, v107_0, v107_1]
  refine run_call' rfl ?_
  simp only [go_sem, calV]
  refine mul' hG _ _ hA hK ?_
  refine run_driveS 80 ?_
  simp only [go_sem]
  refine run_ret_drop Tryd.func107 res107 [] (lw (A * K % ell)) [] rfl (by simp) trivial (by simp [uniq]) ?_ ⟨rfl, rfl⟩
  simp only [go_sem, rr107, lw_plain, ew_plain, ren]
theorem line_add (hG : G 0 = tbl) (A B : Nat) (hA : A < 115792089237316195423570985008687907853269984665640564039457584007913129639936) (hB : B < 115792089237316195423570985008687907853269984665640564039457584007913129639936) {h : Heap} {R : V → Heap → Prop} (hQ : R (lw ((A + B) % ell)) h) : VCall Tryd.prog G 105 [lw A, lw B] h R := by
  refine vcall_plain (Q := fun v => v = lw ((A + B) % ell)) ?_ (fun g => by simp only [rens, lw_plain, ew_plain, ren]) (fun v g hv => by subst hv; exact lw_plain _ g) (fun v hv => by subst hv; exact hQ)
  refine vcall_body Tryd.func105 nm105 code105 nt105 ?_
  refine run_driveS 80 ?_
  simp only [go_sem, v105, v105_0, v105_1]
  refine run_call' rfl ?_
  simp only [go_sem, calV]
  refine add_ hG _ _ hA hB ?_
  refine run_driveS 80 ?_
  simp only [go_sem]
  refine run_ret_drop Tryd.func105 res105 [] (lw ((A + B) % ell)) [] rfl (by simp) trivial (by simp [uniq]) ?_ ⟨rfl, rfl⟩
  simp only [go_sem, rr105, lw_plain, ew_plain, ren]
end Go.Vs.Tryd
namespace Go.Vs.Tryd
open Go.Proofs
variable {G : Nat → List V}
set_option linter.unusedSimpArgs false
attribute [local go_sem] lenO_nils lenO_sl sliceAtV Int.sub_zero List.length_append List.all_append ge_iff_le gt_iff_lt Int.natCast_nonneg Int.toNat_natCast Nat.mul_one b_and_ll b_shr_ll b_mul_ll b_add_ll b_or_ll b_shl_ll pick_ll pick_lc pick_bb driveS stopV Option.isSome_some Option.isSome_none Kind.m Kind.w Kind.g look_ro look_rw look_grow drive stepV exo expo evs fillV isNil nilKind eqV eqL optA optM sliceAtV ev kn ldc stc splice appV srcV lenV setd wantV exitV rvs rv one List.length_cons List.length_nil List.cons_append List.nil_append List.append_nil List.replicate List.getD_cons_zero List.getD_cons_succ List.set_cons_zero List.set_cons_succ List.getElem?_cons_zero List.getElem?_cons_succ List.getElem?_nil List.take_succ_cons List.take_zero List.take_nil List.drop_succ_cons List.drop_zero List.drop_nil List.all_cons List.all_nil List.any_cons List.any_nil Bool.and_true Bool.true_and Bool.and_self Option.map_some Option.map_none Option.bind_some Option.some.injEq Nat.add_zero Nat.zero_add Int.toNat_zero Int.toNat_one Int.zero_add Int.add_zero if_true if_false ite_true ite_false and_true true_and and_self ne_eq not_false_eq_true not_true_eq_false decide_true decide_false Bool.false_eq_true Bool.not_true Bool.not_false beq_self_eq_true BEq.rfl Bool.not_eq_true Nat.le_refl Int.le_refl Nat.zero_le List.foldl List.map_cons List.map_nil Prod.mk.injEq Int.cast_ofNat_Int Int.zero_le_ofNat b_add_cc b_add_cl b_add_lc b_mul_cc b_mul_cl b_mul_lc b_sub_cc b_sub_cl b_sub_lc b_and_cc b_and_cl b_and_lc b_or_cc b_or_cl b_or_lc b_xor_cc b_xor_cl b_xor_lc b_andNot_cc b_andNot_cl b_andNot_lc b_shr_cc b_shr_cl b_shr_lc b_shl_cc b_shl_cl b_shl_lc b_lss b_leq b_gtr b_geq b_add_i b_sub_i b_mul_i beq_cc beq_cl beq_lc beq_ll b_quo_i b_rem_i neg_u64 wrap_i64 driveD stepD idsAt idOf maskH_nil restore_nil restore_mask List.filterMap_nil List.filterMap_cons VOp.looks VOp.makes exA cells_agg cells_int cells_bool cells_str cells_nilp cells_ptr cells_glob cells_nils cells_sl cells_nilf cells_fn cells_nili cells_ifc known_agg known_tup known_int known_bool known_str known_nilp known_ptr known_glob known_nils known_sl known_nilf known_fn known_nili known_ifc known_unk one_agg one_tup one_int one_bool one_str one_nilp one_ptr one_glob one_nils one_sl one_nilf one_fn one_nili one_ifc asK_int asN_int asB_bool asS_str asG_agg asT_tup true_or or_true false_or or_false
attribute [local go_sem_proc] Nat.reduceAdd Nat.reduceSub Nat.reduceLeDiff Nat.reduceMul Nat.reduceLT Nat.reduceEqDiff Int.reduceLT Int.reduceLE Int.reduceAdd Int.reduceSub Int.reduceMul Int.reduceToNat reduceIte reduceCtorEq Nat.reduceBEq
attribute [local go_sem ↓] lc_len lc_take lc_drop lc_known lc_one lc_rens lc_cells lw_known lw_agg lw_asG scs_known scs_one scs_len
attribute [local go_sem] lt_nat lt_natl lt_lnat lt_ll bool_tf bool_ft
set_option maxRecDepth 100000
set_option maxHeartbeats 1000000
theorem m_times : methV Tryd.prog 34 "Times" = some 107 := by kernel_rfl
theorem m_add : methV Tryd.prog 34 "Add" = some 105 := by kernel_rfl
theorem halves_ (p m : Nat) (hm : 0 < m) (hm2 : m < 1000000) (c : Cap) (hc : c = .grow 4 ∨ ∃ k, c = .exact k ∧ 2 * m ≤ k) (f : Nat → Nat) {h : Heap} (hp : h[p]? = some (some ⟨.ro, scs (2 * m) f⟩)) {R : V → Heap → Prop}
    (hQ : R (.tup [.sl p 0 m (.exact m), .sl p (m * 4) m (.exact m)]) h) : VCall Tryd.prog G 50 [.sl p 0 (2 * m) c] h R := by
  have hd : Int.tdiv ((2 * m : Nat) : Int) 2 = (m : Int) := by
    rw [show (2 : Int) = ((2 : Nat) : Int) from rfl, ← Int.ofNat_tdiv]
    congr 1
    omega
  have hwm : IntKind.i64.wrap (m : Int) = (m : Int) := wrap_i64 (by omega) (by omega)
  have h0 : ((m : Int) ≤ ((2 * m : Nat) : Int)) = True := eq_true (by omega)
  have h1 : (m = 0) = False := eq_false (by omega)
  have h1' : ((m : Int) = 0) = False := eq_false (by omega)
  have h2 : (((2 * m : Nat) : Int) = (m : Int)) = False := eq_false (by omega)
  have h3 : (2 * m * 4 ≤ 2 * m * 4) = True := eq_true (by omega)
  have h4 : (((2 * m : Nat) : Int) - (m : Int)) = (m : Int) := by omega
  have h5 : ((m : Int) ≤ (m : Int)) = True := eq_true (by omega)
  have h6 : (((2 * m : Nat) : Int) ≤ ((2 * m : Nat) : Int)) = True := eq_true (by omega)
  refine vcall_body Tryd.func50 nm50 code50 nt50 ?_
  rcases hc with rfl | ⟨k, rfl, hk⟩
  · refine run_driveS 80 ?_
    simp only [go_sem, v50, v50_0, v50_1, hd, hwm]
    refine run_drw (by kernel_rfl) ?_
    refine drun_drive 40 (p := (_, _)) ?_
    simp only [go_sem, v50_2, hp, hd, hwm, h0, h1, h1', h2, h3, h4, h5, h6]
    refine drun_end ?_
    refine run_driveS 80 ?_
    simp only [go_sem]
    refine run_ret' Tryd.func50 res50 ?_
    simp only [go_sem, rr50]
    exact hQ
  · have h7 : ((m : Int) ≤ (k : Int)) = True := eq_true (by omega)
    have h8 : (((2 * m : Nat) : Int) ≤ (k : Int)) = True := eq_true (by omega)
    refine run_driveS 80 ?_
    simp only [go_sem, v50, v50_0, v50_1, hd, hwm]
    refine run_drw (by kernel_rfl) ?_
    refine drun_drive 40 (p := (_, _)) ?_
    simp only [go_sem, v50_2, hp, hd, hwm, h0, h1, h1', h2, h3, h4, h5, h6, h7, h8]
    refine drun_end ?_
    refine run_driveS 80 ?_
    simp only [go_sem]
    refine run_ret' Tryd.func50 res50 ?_
    simp only [go_sem, rr50]
    exact hQ
def fe (x y m : Nat) (f : Nat → Nat) : Nat → Nat := fun j => (f j * x % ell + f (m + j) * y % ell) % ell
theorem fe_lt (x y m : Nat) (f : Nat → Nat) (j : Nat) : fe x y m f j < ell := mod_lt' _
theorem scs_two_get (m : Nat) (f : Nat → Nat) {i : Nat} (h : i < m) : ((scs (2 * m) f).drop (m * 4 + i * 4)).take 4 = lc (f (m + i)) := by
  have := scs_get' (2 * m) f (i := m + i) (by omega)
  rw [Nat.add_mul] at this
  exact this
theorem fold_elements (hG : G 0 = tbl) (x y m : Nat) (hx : x < 115792089237316195423570985008687907853269984665640564039457584007913129639936) (hy : y < 115792089237316195423570985008687907853269984665640564039457584007913129639936) (hm : 0 < m) (hm2 : m < 1000000) (c : Cap) (hc : c = .grow 4 ∨ ∃ k, c = .exact k ∧ 2 * m ≤ k) (f : Nat → Nat) (hf : ∀ j, f j < 115792089237316195423570985008687907853269984665640564039457584007913129639936) (Q : V → Heap → Prop)
    (hQ : Q (.sl 1 0 m (.exact m)) [some ⟨.ro, scs (2 * m) f⟩, some ⟨.rw, scs m (fe x y m f)⟩]) : VCall Tryd.prog G 44 [lw x, .sl 0 0 (2 * m) c, lw y] [some ⟨.ro, scs (2 * m) f⟩] Q := by
  have hl := ell_lt
  have a1 : ((32 : Int) * (m : Int) ≤ 281474976710656) = True := eq_true (by omega)
  have a2 : ((m : Int) ≤ 9223372036854775807) = True := eq_true (by omega)
  refine vcall_body Tryd.func44 nm44 code44 nt44 ?_
  refine run_driveS 80 ?_
  simp only [go_sem, v44, v44_0, v44_1]
  refine run_call' rfl ?_
  simp only [go_sem, calV]
  refine halves_ 0 m hm hm2 c hc f rfl ?_
  refine run_driveS 80 ?_
  simp only [go_sem, v44_2, v44_3, v44_10, a1, a2, ↓scs_zero]
  refine run_rename [0, 1, 2, 3] (st' := ⟨[.unk, .unk, .unk, .ptr 1 0, .unk, .ptr 2 0, .nils, .sl 0 0 m (.exact m), .sl 0 (m * 4) m (.exact m), .sl 3 0 m (.exact m)] ++ List.replicate 10 .unk ++ [.sl 0 0 m (.exact m), .int .i64 m, .int .i64 (0 : Nat)] ++ List.replicate 22 .unk, [some ⟨.ro, scs (2 * m) f⟩, some ⟨.rw, lc x⟩, some ⟨.rw, lc y⟩, some ⟨.rw, scs m fun j => if j < 0 then fe x y m f j else 0⟩]⟩) rfl (by simp) ?_ ?_ ?_ (run_for (fun i => ⟨[.unk, .unk, .unk, .ptr 1 0, .unk, .ptr 2 0, .nils, .sl 0 0 m (.exact m), .sl 0 (m * 4) m (.exact m), .sl 3 0 m (.exact m)] ++ List.replicate 10 .unk ++ [.sl 0 0 m (.exact m), .int .i64 m, .int .i64 i] ++ List.replicate 22 .unk, [some ⟨.ro, scs (2 * m) f⟩, some ⟨.rw, lc x⟩, some ⟨.rw, lc y⟩, some ⟨.rw, scs m fun j => if j < i then fe x y m f j else 0⟩]⟩) m (fun i hi ih => ?_) ?_)
  · rw [show (scs m fun j => if j < 0 then fe x y m f j else 0) = scs m fun _ => 0 from scs_congr fun j _ => if_neg (by omega)]
    simp only [go_sem, hfit, lc_fit, scs_fit, fit, ren, gmap, lw_plain, true_or, or_true]
  · simp [uniq, wrB]
  · simp only [go_sem, hfit, lc_fit, scs_fit, fit, ren, gmap, lw_plain, true_or, or_true]
  · have h0 : ((i : Int) < (m : Int)) = True := eq_true (by omega)
    have hw : IntKind.i64.wrap ((i : Int) + 1) = ((i + 1 : Nat) : Int) := by rw [wrap_i64 (by omega) (by omega)]; omega
    have g1 := scs_get' (2 * m) f (i := i) (by omega)
    have g2 := scs_two_get m f hi
    have hin := scs_in m (fun j => if j < i then fe x y m f j else 0) (i := i) (by omega)
    have hset := scs_set m (fun j => if j < i then fe x y m f j else 0) (fun j => if j < i + 1 then fe x y m f j else 0) (i := i) (v := fe x y m f i) (by omega) (by simp) (fun j _ hj => by by_cases h1 : j < i <;> simp [h1] <;> omega)
    have b1 : (i * 4 + 4 ≤ m * 4) = True := eq_true (by omega)
    refine run_loop_eq v44_9.eq_1 ?_
    refine run_driveS 80 ?_
    simp only [go_sem, v44_4, v44_7, v44_5, h0, g1]
    refine run_drw (by kernel_rfl) ?_
    refine drun_drive 40 (p := (_, _)) ?_
    simp only [go_sem, v44_6, h0, g1, g2]
    refine drun_call' ?_
    simp only [go_sem, calV, m_times]
    refine line_times hG _ _ (hf i) hx ?_
    refine drun_drive 40 (p := (_, _)) ?_
    simp only [go_sem, g2]
    refine drun_call' ?_
    simp only [go_sem, calV, m_times]
    refine line_times hG _ _ (hf (m + i)) hy ?_
    refine drun_drive 40 (p := (_, _)) ?_
    simp only [go_sem]
    refine drun_call' ?_
    simp only [go_sem, calV, m_add]
    refine line_add hG _ _ (mod_lt _) (mod_lt _) ?_
    rw [show (f i * x % ell + f (m + i) * y % ell) % ell = fe x y m f i from rfl]
    refine drun_drive 40 (p := (_, _)) ?_
    simp only [go_sem, h0, b1, hin, hset]
    refine drun_end ?_
    refine run_driveS 80 ?_
    simp only [go_sem, v44_8, hw]
    refine run_rename [0, 1, 2, 3] rfl (by simp) ?_ ?_ ?_ (ih)
    · simp only [go_sem, hfit, lc_fit, scs_fit, fit, ren, gmap, lw_plain, true_or, or_true]
    · simp [uniq, wrB]
    · simp only [go_sem, hfit, lc_fit, scs_fit, fit, ren, gmap, lw_plain, true_or, or_true]
  · have h0 : ((m : Int) < (m : Int)) = False := eq_false (by omega)
    refine run_loop_eq v44_9.eq_1 ?_
    refine run_driveS 80 ?_
    simp only [go_sem, v44_4, h0]
    refine run_exit rfl ?_
    refine run_driveS 80 ?_
    simp only [go_sem, v44_11]
    rw [show (scs m fun j => if j < m then fe x y m f j else 0) = scs m (fe x y m f) from scs_congr fun j hj => if_pos hj]
    refine run_ret_drop Tryd.func44 res44 [0, 3] (.sl 1 0 m (.exact m)) _ rfl (by simp) ?_ ?_ ?_ (hQ)
    · simp only [go_sem, hfit, lc_fit, scs_fit, fit, ren, gmap, lw_plain, true_or, or_true]
    · simp [uniq, wrB]
    · simp only [go_sem, rr44, ren, rens, gmap]
end Go.Vs.Tryd
namespace Go.Vs.Tryd
def sm (t : Nat → Nat) : Nat → Nat
  | 0 => 0
  | n + 1 => (sm t n + t n) % ell
end Go.Vs.Tryd
namespace Go.Vs.Tryd
open Go.Proofs
variable {G : Nat → List V}
set_option linter.unusedSimpArgs false
attribute [local go_sem] lenO_nils lenO_sl sliceAtV Int.sub_zero List.length_append List.all_append ge_iff_le gt_iff_lt Int.natCast_nonneg Int.toNat_natCast Nat.mul_one b_and_ll b_shr_ll b_mul_ll b_add_ll b_or_ll b_shl_ll pick_ll pick_lc pick_bb driveS stopV Option.isSome_some Option.isSome_none Kind.m Kind.w Kind.g look_ro look_rw look_grow drive stepV exo expo evs fillV isNil nilKind eqV eqL optA optM sliceAtV ev kn ldc stc splice appV srcV lenV setd wantV exitV rvs rv one List.length_cons List.length_nil List.cons_append List.nil_append List.append_nil List.replicate List.getD_cons_zero List.getD_cons_succ List.set_cons_zero List.set_cons_succ List.getElem?_cons_zero List.getElem?_cons_succ List.getElem?_nil List.take_succ_cons List.take_zero List.take_nil List.drop_succ_cons List.drop_zero List.drop_nil List.all_cons List.all_nil List.any_cons List.any_nil Bool.and_true Bool.true_and Bool.and_self Option.map_some Option.map_none Option.bind_some Option.some.injEq Nat.add_zero Nat.zero_add Int.toNat_zero Int.toNat_one Int.zero_add Int.add_zero if_true if_false ite_true ite_false and_true true_and and_self ne_eq not_false_eq_true not_true_eq_false decide_true decide_false Bool.false_eq_true Bool.not_true Bool.not_false beq_self_eq_true BEq.rfl Bool.not_eq_true Nat.le_refl Int.le_refl Nat.zero_le List.foldl List.map_cons List.map_nil Prod.mk.injEq Int.cast_ofNat_Int Int.zero_le_ofNat b_add_cc b_add_cl b_add_lc b_mul_cc b_mul_cl b_mul_lc b_sub_cc b_sub_cl b_sub_lc b_and_cc b_and_cl b_and_lc b_or_cc b_or_cl b_or_lc b_xor_cc b_xor_cl b_xor_lc b_andNot_cc b_andNot_cl b_andNot_lc b_shr_cc b_shr_cl b_shr_lc b_shl_cc b_shl_cl b_shl_lc b_lss b_leq b_gtr b_geq b_add_i b_sub_i b_mul_i beq_cc beq_cl beq_lc beq_ll b_quo_i b_rem_i neg_u64 wrap_i64 driveD stepD idsAt idOf maskH_nil restore_nil restore_mask List.filterMap_nil List.filterMap_cons VOp.looks VOp.makes exA cells_agg cells_int cells_bool cells_str cells_nilp cells_ptr cells_glob cells_nils cells_sl cells_nilf cells_fn cells_nili cells_ifc known_agg known_tup known_int known_bool known_str known_nilp known_ptr known_glob known_nils known_sl known_nilf known_fn known_nili known_ifc known_unk one_agg one_tup one_int one_bool one_str one_nilp one_ptr one_glob one_nils one_sl one_nilf one_fn one_nili one_ifc asK_int asN_int asB_bool asS_str asG_agg asT_tup
section
attribute [local go_sem ↓] lc_len lc_take lc_drop lc_known lc_one lc_rens lc_cells lw_known lw_agg lw_asG scs_known scs_one scs_len
attribute [local go_sem] lt_nat lt_natl lt_lnat lt_ll bool_tf bool_ft
attribute [local go_sem ↓] ecs_len ecs_take ecs_drop ecs_known ecs_one ecs_rens ecs_fit ecs_cells ew_known ew_agg ew_asG ecs_kind ecs_k ecs_l ers_known ers_one ers_len ers_rens ers_fit
attribute [local go_sem ↓] ecs_take_add ecs_drop_add lc_take_add lc_drop_add lenO_de lenO_dv de_known dv_known de_one dv_one de_ren dv_ren
set_option maxRecDepth 100000
set_option maxHeartbeats 1000000
noncomputable def pl (Lf Rf us : Nat → Nat) (N : Nat) : Nat → Nat → Nat
  | 0, P => P
  | m + 1, P => pl Lf Rf us N m (((Lf (N - 1 - m) * (us (N - 1 - m) * us (N - 1 - m) % ell) % ell + P) % ell + Rf (N - 1 - m) * (linv (us (N - 1 - m)) * linv (us (N - 1 - m)) % ell) % ell) % ell)
end
section
attribute [local go_sem ↓] lc_len lc_take lc_drop lc_known lc_one lc_rens lc_cells lw_known lw_agg lw_asG scs_known scs_one scs_len
attribute [local go_sem ↓] lc_take_add lc_drop_add
attribute [local go_sem] bool_tf bool_ft
set_option maxRecDepth 100000
set_option maxHeartbeats 1000000
def t3 (n : Nat) (x : Nat) (y z : Nat → Nat) (j : Nat) : Nat := if j = 0 then x else if j < 1 + n then y (j - 1) else z (j - 1 - n)
end
end Go.Vs.Tryd
namespace Go.Vs.Tryd
open Go.Proofs
variable {G : Nat → List V}
set_option linter.unusedSimpArgs false
attribute [local go_sem] lenO_nils lenO_sl sliceAtV Int.sub_zero List.length_append List.all_append ge_iff_le gt_iff_lt Int.natCast_nonneg Int.toNat_natCast Nat.mul_one b_and_ll b_shr_ll b_mul_ll b_add_ll b_or_ll b_shl_ll pick_ll pick_lc pick_bb driveS stopV Option.isSome_some Option.isSome_none Kind.m Kind.w Kind.g look_ro look_rw look_grow drive stepV exo expo evs fillV isNil nilKind eqV eqL optA optM sliceAtV ev kn ldc stc splice appV srcV lenV setd wantV exitV rvs rv one List.length_cons List.length_nil List.cons_append List.nil_append List.append_nil List.replicate List.getD_cons_zero List.getD_cons_succ List.set_cons_zero List.set_cons_succ List.getElem?_cons_zero List.getElem?_cons_succ List.getElem?_nil List.take_succ_cons List.take_zero List.take_nil List.drop_succ_cons List.drop_zero List.drop_nil List.all_cons List.all_nil List.any_cons List.any_nil Bool.and_true Bool.true_and Bool.and_self Option.map_some Option.map_none Option.bind_some Option.some.injEq Nat.add_zero Nat.zero_add Int.toNat_zero Int.toNat_one Int.zero_add Int.add_zero if_true if_false ite_true ite_false and_true true_and and_self ne_eq not_false_eq_true not_true_eq_false decide_true decide_false Bool.false_eq_true Bool.not_true Bool.not_false beq_self_eq_true BEq.rfl Bool.not_eq_true Nat.le_refl Int.le_refl Nat.zero_le List.foldl List.map_cons List.map_nil Prod.mk.injEq Int.cast_ofNat_Int Int.zero_le_ofNat b_add_cc b_add_cl b_add_lc b_mul_cc b_mul_cl b_mul_lc b_sub_cc b_sub_cl b_sub_lc b_and_cc b_and_cl b_and_lc b_or_cc b_or_cl b_or_lc b_xor_cc b_xor_cl b_xor_lc b_andNot_cc b_andNot_cl b_andNot_lc b_shr_cc b_shr_cl b_shr_lc b_shl_cc b_shl_cl b_shl_lc b_lss b_leq b_gtr b_geq b_add_i b_sub_i b_mul_i beq_cc beq_cl beq_lc beq_ll b_quo_i b_rem_i neg_u64 wrap_i64 driveD stepD idsAt idOf maskH_nil restore_nil restore_mask List.filterMap_nil List.filterMap_cons VOp.looks VOp.makes exA cells_agg cells_int cells_bool cells_str cells_nilp cells_ptr cells_glob cells_nils cells_sl cells_nilf cells_fn cells_nili cells_ifc known_agg known_tup known_int known_bool known_str known_nilp known_ptr known_glob known_nils known_sl known_nilf known_fn known_nili known_ifc known_unk one_agg one_tup one_int one_bool one_str one_nilp one_ptr one_glob one_nils one_sl one_nilf one_fn one_nili one_ifc asK_int asN_int asB_bool asS_str asG_agg asT_tup
attribute [local go_sem_proc] Nat.reduceAdd Nat.reduceSub Nat.reduceLeDiff Nat.reduceMul Nat.reduceLT Nat.reduceEqDiff Int.reduceLT Int.reduceLE Int.reduceAdd Int.reduceSub Int.reduceMul Int.reduceToNat reduceIte reduceCtorEq Nat.reduceBEq
attribute [local go_sem ↓] lc_len lc_take lc_drop lc_known lc_one lc_rens lc_cells lw_known lw_agg lw_asG scs_known scs_one scs_len
attribute [local go_sem] lt_nat lt_natl lt_lnat lt_ll bool_tf bool_ft
attribute [local go_sem ↓] ecs_len ecs_take ecs_drop ecs_known ecs_one ecs_rens ecs_fit ecs_cells ew_known ew_agg ew_asG ecs_kind ecs_k ecs_l ers_known ers_one ers_len ers_rens ers_fit
set_option maxRecDepth 100000
set_option maxHeartbeats 1000000
theorem line_ (k : Nat) {h : Heap} {R : V → Heap → Prop} (hQ : R (lw k) h) : VCall Tryd.prog G 7 [lw k] h R := by
  refine vcall_plain (Q := fun v => v = lw k) ?_ (fun g => by simp only [rens, lw_plain]) (fun v g hv => by subst hv; exact lw_plain _ g) (fun v hv => by subst hv; exact hQ)
  refine vcall_body Tryd.func7 nm7 code7 nt7 ?_
  refine run_driveS 80 ?_
  simp only [go_sem, v7, v7_0, v7_1]
  refine run_ret_drop Tryd.func7 res7 [] (lw k) [] rfl (by simp) trivial (by simp [uniq]) ?_ ⟨rfl, rfl⟩
  simp only [go_sem, rr7, lw_plain]
end Go.Vs.Tryd
namespace Go.Vs.Tryd
open Go.Proofs
variable {G : Nat → List V}
set_option linter.unusedSimpArgs false
attribute [local go_sem] lenO_nils lenO_sl sliceAtV Int.sub_zero List.length_append List.all_append ge_iff_le gt_iff_lt Int.natCast_nonneg Int.toNat_natCast Nat.mul_one b_and_ll b_shr_ll b_mul_ll b_add_ll b_or_ll b_shl_ll pick_ll pick_lc pick_bb driveS stopV Option.isSome_some Option.isSome_none Kind.m Kind.w Kind.g look_ro look_rw look_grow drive stepV exo expo evs fillV isNil nilKind eqV eqL optA optM sliceAtV ev kn ldc stc splice appV srcV lenV setd wantV exitV rvs rv one List.length_cons List.length_nil List.cons_append List.nil_append List.append_nil List.replicate List.getD_cons_zero List.getD_cons_succ List.set_cons_zero List.set_cons_succ List.getElem?_cons_zero List.getElem?_cons_succ List.getElem?_nil List.take_succ_cons List.take_zero List.take_nil List.drop_succ_cons List.drop_zero List.drop_nil List.all_cons List.all_nil List.any_cons List.any_nil Bool.and_true Bool.true_and Bool.and_self Option.map_some Option.map_none Option.bind_some Option.some.injEq Nat.add_zero Nat.zero_add Int.toNat_zero Int.toNat_one Int.zero_add Int.add_zero if_true if_false ite_true ite_false and_true true_and and_self ne_eq not_false_eq_true not_true_eq_false decide_true decide_false Bool.false_eq_true Bool.not_true Bool.not_false beq_self_eq_true BEq.rfl Bool.not_eq_true Nat.le_refl Int.le_refl Nat.zero_le List.foldl List.map_cons List.map_nil Prod.mk.injEq Int.cast_ofNat_Int Int.zero_le_ofNat b_add_cc b_add_cl b_add_lc b_mul_cc b_mul_cl b_mul_lc b_sub_cc b_sub_cl b_sub_lc b_and_cc b_and_cl b_and_lc b_or_cc b_or_cl b_or_lc b_xor_cc b_xor_cl b_xor_lc b_andNot_cc b_andNot_cl b_andNot_lc b_shr_cc b_shr_cl b_shr_lc b_shl_cc b_shl_cl b_shl_lc b_lss b_leq b_gtr b_geq b_add_i b_sub_i b_mul_i beq_cc beq_cl beq_lc beq_ll b_quo_i b_rem_i neg_u64 wrap_i64 driveD stepD idsAt idOf maskH_nil restore_nil restore_mask List.filterMap_nil List.filterMap_cons VOp.looks VOp.makes exA cells_agg cells_int cells_bool cells_str cells_nilp cells_ptr cells_glob cells_nils cells_sl cells_nilf cells_fn cells_nili cells_ifc known_agg known_tup known_int known_bool known_str known_nilp known_ptr known_glob known_nils known_sl known_nilf known_fn known_nili known_ifc known_unk one_agg one_tup one_int one_bool one_str one_nilp one_ptr one_glob one_nils one_sl one_nilf one_fn one_nili one_ifc asK_int asN_int asB_bool asS_str asG_agg asT_tup
attribute [local go_sem ↓] lc_len lc_take lc_drop lc_known lc_one lc_rens lc_cells lw_known lw_agg lw_asG scs_known scs_one scs_len
attribute [local go_sem] lt_nat lt_natl lt_lnat lt_ll bool_tf bool_ft
attribute [local go_sem ↓] ecs_len ecs_take ecs_drop ecs_known ecs_one ecs_rens ecs_fit ecs_cells ew_known ew_agg ew_asG ecs_kind ecs_k ecs_l ers_known ers_one ers_len ers_rens ers_fit
set_option maxRecDepth 100000
set_option maxHeartbeats 1000000
def ivl (i n m : Nat) (z : Bool) : V := if z = true then .nils else .sl i 0 n (.exact m)
def ivb (f : Nat → Nat) (n : Nat) (z : Bool) : Option Blk := if z = true then none else some ⟨.ro, scs n f⟩
def Ok (n m : Nat) (z : Bool) : Prop := n ≤ m ∧ (z = true → n = 0)
theorem In_iv {f : Nat → Nat} {n m : Nat} {z : Bool} (h : Ok n m z) : In f n (ivl 0 n m z) (ivb f n z) := by
  cases z
  · exact In.sl n m h.1
  · obtain rfl := h.2 rfl
    exact In.nil
theorem ivl_ren (i n m : Nat) (z : Bool) (g : Nat → Nat) : ren g (ivl i n m z) = ivl (g i) n m z := by cases z <;> rfl
theorem ivl_known (i n m : Nat) (z : Bool) : (ivl i n m z).known = true := by cases z <;> rfl
theorem ivl_one (i n m : Nat) (z : Bool) : (ivl i n m z).one = true := by cases z <;> rfl
theorem wrB_ivb (f : Nat → Nat) (n : Nat) (z : Bool) : wrB (ivb f n z) = false := by cases z <;> rfl
attribute [local go_sem ↓] ivl_known ivl_one lc_take_add lc_drop_add ecs_take_add ecs_drop_add de_known de_one
theorem puts_ro {g : Nat → Nat} : ∀ {h' h'' : Heap} {μ : List Nat} {h : Heap}, h'.all (fun b => !wrB b) = true → h'.length = μ.length → h'.length ≤ h''.length → puts g h' h'' μ h = h ++ (h''.drop h'.length).map (Option.map (renB g))
  | [], h'', μ, h, _, _, _ => by simp [puts]
  | b :: h', [], μ, h, _, _, h3 => by simp at h3
  | b :: h', c :: h'', [], h, _, h2, _ => by simp at h2
  | b :: h', c :: h'', i :: μ, h, h1, h2, h3 => by
    simp only [List.all_cons, Bool.and_eq_true, Bool.not_eq_true'] at h1
    simp only [puts, h1.1, Bool.false_eq_true, if_false, List.length_cons, List.drop_succ_cons]
    exact puts_ro h1.2 (by simpa using h2) (by simpa using h3)
def bfit (g : Nat → Nat) : Option Blk → Option Blk → Prop
  | none, _ => True
  | some b1, some b => (b1.kind = b.kind ∨ b1.kind = .ro ∧ b.kind.m = true) ∧ fit g b1.cells b.cells
  | some _, none => False
theorem hfit_cons {g : Nat → Nat} {h : Heap} {i : Nat} {μ : List Nat} {b : Option Blk} {h' : Heap} {c : Option Blk} (hc : h[i]? = some c) (hb : bfit g b c) (hr : hfit g h μ h') : hfit g h (i :: μ) (b :: h') := by
  cases b with
  | none => exact ⟨trivial, hr⟩
  | some b1 =>
    cases c with
    | none => exact hb.elim
    | some c => simp only [hfit, hc]; exact ⟨hb, hr⟩
theorem hfit_cons_none {g : Nat → Nat} {h : Heap} {i : Nat} {μ : List Nat} {h' : Heap} (hr : hfit g h μ h') : hfit g h (i :: μ) (none :: h') := ⟨trivial, hr⟩
theorem hfit_nil {g : Nat → Nat} {h : Heap} : hfit g h [] [] := trivial
theorem bfit_same {g : Nat → Nat} {k : Kind} {c : List V} (h : rens g c = c) (hk : k.m = true := by rfl) : bfit g (some ⟨.ro, c⟩) (some ⟨k, c⟩) := ⟨.inr ⟨rfl, hk⟩, fit_same h⟩
theorem bfit_ivb {g f : Nat → Nat} {n : Nat} {z : Bool} : bfit g (ivb f n z) (ivb f n z) := by
  cases z
  · exact bfit_same (scs_rens ..)
  · trivial
def cas (Q P : Nat) (g h a b l r : V) (ea eb : Nat) (s given lab n : V) : List V := lc Q ++ (lc P ++ (g :: h :: a :: b :: l :: r :: (lc ea ++ (lc eb ++ [s, given, lab, n]))))
end Go.Vs.Tryd
namespace Go.Vs.Tryd
open Go.Proofs
variable {G : Nat → List V}
set_option linter.unusedSimpArgs false
attribute [local go_sem] lenO_nils lenO_sl sliceAtV Int.sub_zero List.length_append List.all_append ge_iff_le gt_iff_lt Int.natCast_nonneg Int.toNat_natCast Nat.mul_one b_and_ll b_shr_ll b_mul_ll b_add_ll b_or_ll b_shl_ll pick_ll pick_lc pick_bb driveS stopV Option.isSome_some Option.isSome_none Kind.m Kind.w Kind.g look_ro look_rw look_grow drive stepV exo expo evs fillV isNil nilKind eqV eqL optA optM sliceAtV ev kn ldc stc splice appV srcV lenV setd wantV exitV rvs rv one List.length_cons List.length_nil List.cons_append List.nil_append List.append_nil List.replicate List.getD_cons_zero List.getD_cons_succ List.set_cons_zero List.set_cons_succ List.getElem?_cons_zero List.getElem?_cons_succ List.getElem?_nil List.take_succ_cons List.take_zero List.take_nil List.drop_succ_cons List.drop_zero List.drop_nil List.all_cons List.all_nil List.any_cons List.any_nil Bool.and_true Bool.true_and Bool.and_self Option.map_some Option.map_none Option.bind_some Option.some.injEq Nat.add_zero Nat.zero_add Int.toNat_zero Int.toNat_one Int.zero_add Int.add_zero if_true if_false ite_true ite_false and_true true_and and_self ne_eq not_false_eq_true not_true_eq_false decide_true decide_false Bool.false_eq_true Bool.not_true Bool.not_false beq_self_eq_true BEq.rfl Bool.not_eq_true Nat.le_refl Int.le_refl Nat.zero_le List.foldl List.map_cons List.map_nil Prod.mk.injEq Int.cast_ofNat_Int Int.zero_le_ofNat b_add_cc b_add_cl b_add_lc b_mul_cc b_mul_cl b_mul_lc b_sub_cc b_sub_cl b_sub_lc b_and_cc b_and_cl b_and_lc b_or_cc b_or_cl b_or_lc b_xor_cc b_xor_cl b_xor_lc b_andNot_cc b_andNot_cl b_andNot_lc b_shr_cc b_shr_cl b_shr_lc b_shl_cc b_shl_cl b_shl_lc b_lss b_leq b_gtr b_geq b_add_i b_sub_i b_mul_i beq_cc beq_cl beq_lc beq_ll b_quo_i b_rem_i neg_u64 wrap_i64 driveD stepD idsAt idOf maskH_nil restore_nil restore_mask List.filterMap_nil List.filterMap_cons VOp.looks VOp.makes exA cells_agg cells_int cells_bool cells_str cells_nilp cells_ptr cells_glob cells_nils cells_sl cells_nilf cells_fn cells_nili cells_ifc known_agg known_tup known_int known_bool known_str known_nilp known_ptr known_glob known_nils known_sl known_nilf known_fn known_nili known_ifc known_unk one_agg one_tup one_int one_bool one_str one_nilp one_ptr one_glob one_nils one_sl one_nilf one_fn one_nili one_ifc asK_int asN_int asB_bool asS_str asG_agg asT_tup true_or or_true false_or or_false
attribute [local go_sem_proc] Nat.reduceAdd Nat.reduceSub Nat.reduceLeDiff Nat.reduceMul Nat.reduceLT Nat.reduceEqDiff Int.reduceLT Int.reduceLE Int.reduceAdd Int.reduceSub Int.reduceMul Int.reduceToNat reduceIte reduceCtorEq Nat.reduceBEq
section
attribute [local go_sem ↓] lc_len lc_take lc_drop lc_known lc_one lc_rens lc_cells lw_known lw_agg lw_asG scs_known scs_one scs_len lc_take_add lc_drop_add
attribute [local go_sem] lt_nat lt_natl lt_lnat lt_ll bool_tf bool_ft
set_option maxRecDepth 100000
set_option maxHeartbeats 1000000
theorem fold_at (hG : G 0 = tbl) (x y m : Nat) (hx : x < 115792089237316195423570985008687907853269984665640564039457584007913129639936) (hy : y < 115792089237316195423570985008687907853269984665640564039457584007913129639936) (hm : 0 < m) (hm2 : m < 1000000) (c : Cap) (hc : c = .grow 4 ∨ ∃ k, c = .exact k ∧ 2 * m ≤ k) (f : Nat → Nat) (hf : ∀ j, f j < 115792089237316195423570985008687907853269984665640564039457584007913129639936) (p : Nat) {h : Heap} {k : Kind} (hk : k.m = true) (hp : h[p]? = some (some ⟨k, scs (2 * m) f⟩)) {R : V → Heap → Prop}
    (hR : R (.sl h.length 0 m (.exact m)) (h ++ [some ⟨.rw, scs m (fe x y m f)⟩])) : VCall Tryd.prog G 44 [lw x, .sl p 0 (2 * m) c, lw y] h R := by
  refine vcall_at (fold_elements hG x y m hx hy hm hm2 c hc f hf (fun v k => v = .sl 1 0 m (.exact m) ∧ k = [some ⟨.ro, scs (2 * m) f⟩, some ⟨.rw, scs m (fe x y m f)⟩]) ⟨rfl, rfl⟩) [p] ?_ (hfit_cons hp (bfit_same (scs_rens _ _ _) hk) hfit_nil) ?_ ?_ ?_
  · intro i hi
    obtain rfl : i = p := by simpa using hi
    exact (List.getElem?_eq_some_iff.1 hp).1
  · simp [uniq, wrB]
  · simp only [rens, ren, lw_plain, gmap]
  · rintro v k ⟨rfl, rfl⟩
    rw [puts_ro (by simp [wrB]) rfl (by simp)]
    simpa [ren, gmap, renB, scs_rens] using hR
theorem st_t8 (P Q : Nat) (r : List V) : List.take 8 (lc P ++ lc Q ++ r) = lc P ++ lc Q := rfl
theorem st_d9 (P Q : Nat) (a b : V) : List.drop 9 (lc P ++ lc Q ++ [a, b]) = [b] := rfl
theorem st_t9 (P Q : Nat) (a : V) (b : List V) : List.take 9 (lc P ++ lc Q ++ [a] ++ b) = lc P ++ lc Q ++ [a] := rfl
theorem st_d10 (P Q : Nat) (a b : V) : List.drop 10 (lc P ++ lc Q ++ [a] ++ [b]) = [] := rfl
theorem st_t10 (P Q : Nat) (a b : V) : List.take 10 (lc P ++ lc Q ++ [a] ++ [b]) = lc P ++ (lc Q ++ [a, b]) := rfl
noncomputable def pf1 (P L R U : Nat) : Nat := ((L * (U * U % ell) % ell + P) % ell + R * (linv U * linv U % ell) % ell) % ell
theorem pf1_lt (P L R U : Nat) : pf1 P L R U < ell := mod_lt' _
theorem folded_ (hG : G 0 = tbl) (P Q' L R U m : Nat) (hP : P < 115792089237316195423570985008687907853269984665640564039457584007913129639936) (hQ' : Q' < 115792089237316195423570985008687907853269984665640564039457584007913129639936) (hL : L < 115792089237316195423570985008687907853269984665640564039457584007913129639936) (hR : R < 115792089237316195423570985008687907853269984665640564039457584007913129639936) (hU : U < 115792089237316195423570985008687907853269984665640564039457584007913129639936) (hm : 0 < m) (hm2 : m < 1000000) (c d : Cap) (hc : c = .grow 4 ∨ ∃ k, c = .exact k ∧ 2 * m ≤ k) (hd : d = .grow 4 ∨ ∃ k, d = .exact k ∧ 2 * m ≤ k) (g h : Nat → Nat) (hg : ∀ j, g j < 115792089237316195423570985008687907853269984665640564039457584007913129639936) (hh : ∀ j, h j < 115792089237316195423570985008687907853269984665640564039457584007913129639936) (Q : V → Heap → Prop)
    (hQ : Q (stL (pf1 P L R U) Q' (.sl 2 0 m (.exact m)) (.sl 3 0 m (.exact m))) [some ⟨.ro, scs (2 * m) g⟩, some ⟨.ro, scs (2 * m) h⟩, some ⟨.rw, scs m (fe (linv U) U m g)⟩, some ⟨.rw, scs m (fe U (linv U) m h)⟩]) :
    VCall Tryd.prog G 35 [stL P Q' (.sl 0 0 (2 * m) c) (.sl 1 0 (2 * m) d), lw L, lw R, lw U] [some ⟨.ro, scs (2 * m) g⟩, some ⟨.ro, scs (2 * m) h⟩] Q := by
  have hl := ell_lt
  have hv : linv U < 115792089237316195423570985008687907853269984665640564039457584007913129639936 := Nat.lt_trans (linv_lt _) ell_lt
  have MSK := @maskH_nil
  refine vcall_body Tryd.func35 nm35 code35 nt35 ?_
  unfold stL
  refine run_driveS 80 ?_
  simp only [go_sem, v35, v35_0, v35_1]
  refine run_call' rfl ?_
  simp only [go_sem, calV]
  refine invert' hG U hU ?_
  refine run_driveS 80 ?_
  simp only [go_sem]
  refine run_drw (by kernel_rfl) ?_
  refine drun_drive 40 (p := (_, _)) ?_
  simp only [go_sem, v35_2]
  refine drun_call' ?_
  simp only [go_sem, calV, restore, Option.join_some, maskH, List.mapIdx_cons, List.mapIdx_nil, List.contains_cons, List.contains_nil, Bool.or_false, Bool.or_true, Bool.false_or, Bool.true_or, Nat.reduceBEq]
  refine mul' hG _ _ hU hU ?_
  refine drun_drive 40 (p := (_, _)) ?_
  simp only [go_sem, restore, Option.join_some, maskH, List.mapIdx_cons, List.mapIdx_nil, List.contains_cons, List.contains_nil, Bool.or_false, Bool.or_true, Bool.false_or, Bool.true_or, Nat.reduceBEq]
  refine drun_call' ?_
  simp only [go_sem, calV, m_times, restore, Option.join_some, maskH, List.mapIdx_cons, List.mapIdx_nil, List.contains_cons, List.contains_nil, Bool.or_false, Bool.or_true, Bool.false_or, Bool.true_or, Nat.reduceBEq]
  refine line_times hG _ _ hL (mod_lt _) ?_
  refine drun_drive 40 (p := (_, _)) ?_
  simp only [go_sem, restore, Option.join_some, maskH, List.mapIdx_cons, List.mapIdx_nil, List.contains_cons, List.contains_nil, Bool.or_false, Bool.or_true, Bool.false_or, Bool.true_or, Nat.reduceBEq]
  refine drun_call' ?_
  simp only [go_sem, calV, m_add, restore, Option.join_some, maskH, List.mapIdx_cons, List.mapIdx_nil, List.contains_cons, List.contains_nil, Bool.or_false, Bool.or_true, Bool.false_or, Bool.true_or, Nat.reduceBEq]
  refine line_add hG _ _ (mod_lt _) hP ?_
  refine drun_drive 40 (p := (_, _)) ?_
  simp only [go_sem, restore, Option.join_some, maskH, List.mapIdx_cons, List.mapIdx_nil, List.contains_cons, List.contains_nil, Bool.or_false, Bool.or_true, Bool.false_or, Bool.true_or, Nat.reduceBEq]
  refine drun_call' ?_
  simp only [go_sem, calV, restore, Option.join_some, maskH, List.mapIdx_cons, List.mapIdx_nil, List.contains_cons, List.contains_nil, Bool.or_false, Bool.or_true, Bool.false_or, Bool.true_or, Nat.reduceBEq]
  refine mul' hG _ _ hv hv ?_
  refine drun_drive 40 (p := (_, _)) ?_
  simp only [go_sem, restore, Option.join_some, maskH, List.mapIdx_cons, List.mapIdx_nil, List.contains_cons, List.contains_nil, Bool.or_false, Bool.or_true, Bool.false_or, Bool.true_or, Nat.reduceBEq]
  refine drun_call' ?_
  simp only [go_sem, calV, m_times, restore, Option.join_some, maskH, List.mapIdx_cons, List.mapIdx_nil, List.contains_cons, List.contains_nil, Bool.or_false, Bool.or_true, Bool.false_or, Bool.true_or, Nat.reduceBEq]
  refine line_times hG _ _ hR (mod_lt _) ?_
  refine drun_drive 40 (p := (_, _)) ?_
  simp only [go_sem, restore, Option.join_some, maskH, List.mapIdx_cons, List.mapIdx_nil, List.contains_cons, List.contains_nil, Bool.or_false, Bool.or_true, Bool.false_or, Bool.true_or, Nat.reduceBEq]
  refine drun_call' ?_
  simp only [go_sem, calV, m_add, restore, Option.join_some, maskH, List.mapIdx_cons, List.mapIdx_nil, List.contains_cons, List.contains_nil, Bool.or_false, Bool.or_true, Bool.false_or, Bool.true_or, Nat.reduceBEq]
  refine line_add hG _ _ (mod_lt _) (mod_lt _) ?_
  rw [show ((L * (U * U % ell) % ell + P) % ell + R * (linv U * linv U % ell) % ell) % ell = pf1 P L R U from rfl]
  refine drun_drive 40 (p := (_, _)) ?_
  simp only [go_sem, restore, Option.join_some, maskH, List.mapIdx_cons, List.mapIdx_nil, List.contains_cons, List.contains_nil, Bool.or_false, Bool.or_true, Bool.false_or, Bool.true_or, Nat.reduceBEq]
  refine drun_call' ?_
  simp only [go_sem, calV, restore, Option.join_some, maskH, List.mapIdx_cons, List.mapIdx_nil, List.contains_cons, List.contains_nil, Bool.or_false, Bool.or_true, Bool.false_or, Bool.true_or, Nat.reduceBEq]
  refine fold_at hG _ _ m hv hU hm hm2 c hc g hg 0 rfl rfl ?_
  refine drun_drive 40 (p := (_, _)) ?_
  simp only [go_sem, restore, Option.join_some, maskH, List.mapIdx_cons, List.mapIdx_nil, List.contains_cons, List.contains_nil, Bool.or_false, Bool.or_true, Bool.false_or, Bool.true_or, Nat.reduceBEq]
  refine drun_call' ?_
  simp only [go_sem, calV, restore, Option.join_some, maskH, List.mapIdx_cons, List.mapIdx_nil, List.contains_cons, List.contains_nil, Bool.or_false, Bool.or_true, Bool.false_or, Bool.true_or, Nat.reduceBEq]
  refine fold_at hG _ _ m hU hv hm hm2 d hd h hh 1 rfl rfl ?_
  refine drun_drive 40 (p := (_, _)) ?_
  simp only [go_sem, st_t8, st_d9, st_t9, st_d10, restore, Option.join_some, maskH, List.mapIdx_cons, List.mapIdx_nil, List.contains_cons, List.contains_nil, Bool.or_false, Bool.or_true, Bool.false_or, Bool.true_or, Nat.reduceBEq]
  refine drun_end ?_
  refine run_driveS 80 ?_
  simp only [go_sem]
  refine run_ret_drop Tryd.func35 res35 [0, 1, 8, 9] (stL (pf1 P L R U) Q' (.sl 2 0 m (.exact m)) (.sl 3 0 m (.exact m))) _ rfl (by simp) ?_ ?_ ?_ hQ
  · simp only [go_sem, hfit, lc_fit, scs_fit, fit, ren, gmap, lw_plain, true_or, or_true]
  · simp [uniq, wrB]
  · simp only [go_sem, rr35, ren, rens, gmap, stL_ren, stL, rens_append, st_t10]
end
section
attribute [local go_sem ↓] lc_len lc_take lc_drop lc_known lc_one lc_rens lc_cells lw_known lw_agg lw_asG scs_known scs_one scs_len
attribute [local go_sem] lt_nat lt_natl lt_lnat lt_ll
set_option maxRecDepth 100000
set_option maxHeartbeats 1000000
theorem bfit_g {f : Nat → Nat} {k : Kind} {c : List V} (h : rens f c = c) : bfit f (some ⟨k, c⟩) (some ⟨k, c⟩) := ⟨.inl rfl, fit_same h⟩
def fl (f : Nat → Nat) (N : Nat) : Nat → Nat := fun j => if j < N then f j else (3 * j + 2) % 18446744073709551616
theorem fl_lt {f : Nat → Nat} (hf : ∀ j, f j < 115792089237316195423570985008687907853269984665640564039457584007913129639936) (N : Nat) (j : Nat) : fl f N j < 115792089237316195423570985008687907853269984665640564039457584007913129639936 := by
  unfold fl
  split
  · exact hf j
  · exact Nat.lt_trans (Nat.mod_lt _ (by decide)) (by decide)
theorem dv_zero' (b : Nat) : dv b 0 = .nils := rfl
theorem scs_s1 (f : Nat → Nat) {v : Nat} (h : f 0 = v) : scs 1 f = lc v := by subst h; rfl
theorem fill_ (f : Nat → Nat) (hf : ∀ j, f j < 115792089237316195423570985008687907853269984665640564039457584007913129639936) (N n : Nat) (hn0 : 0 < n) (hn : n ≤ 100) (hN : N < 9223372036854775808) (uv : V) (b0 : Option Blk) (hi : In f N uv b0) (Q : V → Heap → Prop) (hQ : Q (.sl 1 0 n (.grow 4)) [b0, some ⟨.grow, scs n (fl f N)⟩]) : VCall Tryd.prog G 6 [uv, .int .i64 n] [b0] Q := by
  have hb0 : ∀ g, bfit g b0 b0 := fun g => by cases hi with
    | nil => trivial
    | sl m h => exact bfit_same (scs_rens ..)
  have hwb : wrB b0 = false := by cases hi <;> rfl
  have hlen : lenO uv = some N := by cases hi <;> rfl
  have hkn : uv.known = true := by cases hi <;> rfl
  have hone : uv.one = true := by cases hi <;> rfl
  have hru : ∀ g : Nat → Nat, g 0 = 0 → ren g uv = uv := fun g hg => by cases hi <;> simp [ren, hg]
  have hrs : ∀ (μ : List Nat) L, ren (gmap (0 :: μ) L) uv = uv := fun μ L => hru _ rfl
  refine vcall_body Tryd.func6 nm6 code6 nt6 ?_
  refine run_driveS 80 ?_
  simp only [go_sem, v6, v6_0, v6_1, v6_2, v6_10, hkn]
  refine run_rename [0, 1] (st' := ⟨[uv, .int .i64 n, .unk, .unk, .nils, dv 1 0, .int .i64 (0 : Nat)] ++ List.replicate 25 .unk, [b0, db (fl f N) 0]⟩) rfl (by simp) ?_ ?_ ?_ (run_for (fun i => ⟨[uv, .int .i64 n, .unk, .unk, .nils, dv 1 i, .int .i64 (i : Nat)] ++ List.replicate 25 .unk, [b0, db (fl f N) i]⟩) n (fun i hin ih => ?_) ?_)
  · exact hfit_cons rfl (hb0 _) (hfit_cons_none hfit_nil)
  · simp [uniq, hwb, wrB, db]
  · rw [dv_zero']
    simp only [go_sem, hfit, lc_fit, scs_fit, fit, ren, gmap, lw_plain, true_or, or_true, hrs]
  · have h0 : ((i : Int) < (n : Int)) = True := eq_true (by omega)
    have hw : IntKind.i64.wrap ((i : Int) + 1) = ((i + 1 : Nat) : Int) := by rw [wrap_i64 (by omega) (by omega)]; omega
    have h3 : IntKind.i64.wrap (3 * (i : Int)) = ((3 * i : Nat) : Int) := by rw [wrap_i64 (by omega) (by omega)]; omega
    have h4 : IntKind.i64.wrap (((3 * i : Nat) : Int) + 2) = ((3 * i + 2 : Nat) : Int) := by rw [wrap_i64 (by omega) (by omega)]; omega
    have h5 : IntKind.u64.wrap ((3 * i + 2 : Nat) : Int) = ((3 * i + 2 : Nat) : Int) := by rw [wrap_u64]; omega
    by_cases hlt : i < N
    · obtain ⟨m, rfl, rfl⟩ : ∃ m, uv = .sl 0 0 N (.exact m) ∧ b0 = some ⟨.ro, scs N f⟩ := by
        cases hi with
        | nil => omega
        | sl m h => exact ⟨_, rfl, rfl⟩
      have h1 : ((i : Int) < (N : Int)) = True := eq_true (by omega)
      have hg := scs_get' N f (i := i) hlt
      have hv : fl f N i = f i := if_pos hlt
      by_cases hz : i = 0
      · subst hz
        have h0' : ((0 : Int) < (n : Int)) = True := eq_true (by omega)
        have h1' : ((0 : Int) < (N : Int)) = True := eq_true (by omega)
        rw [Nat.zero_mul, List.drop_zero] at hg
        rw [dv_zero', show db (fl f N) 0 = none from rfl]
        have hb := scs_s1 (fl f N) hv
        refine run_loop_eq v6_9.eq_1 ?_
        refine run_driveS 80 ?_
        simp only [go_sem, v6_7, v6_3, v6_4, h0', h1', lenO_sl]
        refine run_cond_t (by rfl) ?_
        refine run_driveS 80 ?_
        simp only [go_sem, v6_5, v6_8, hg, h0', h1']
        refine run_rename [0, 3] rfl (by simp) ?_ ?_ ?_ ih
        · rw [db_pos (by omega)]
          refine hfit_cons rfl (hb0 _) (hfit_cons rfl ?_ hfit_nil)
          rw [hb]; exact bfit_g (lc_rens ..)
        · simp [uniq, hwb, wrB, db]
        · rw [dv_pos (by omega)]
          simp only [go_sem, hfit, lc_fit, scs_fit, fit, ren, gmap, lw_plain, true_or, or_true, hrs]
      · have hp : 0 < i := by omega
        rw [dv_pos hp, db_pos hp]
        have a1 : ((i + 1) * 32 ≤ 140737488355328) = True := eq_true (by omega)
        have a2 : (i + 1 ≤ 9223372036854775807) = True := eq_true (by omega)
        have a3 := scs_snoc i (fl f N) hv
        refine run_loop_eq v6_9.eq_1 ?_
        refine run_driveS 80 ?_
        simp only [go_sem, v6_7, v6_3, v6_4, h0, h1, lenO_sl]
        refine run_cond_t (by rfl) ?_
        refine run_driveS 80 ?_
        simp only [go_sem, v6_5, v6_8, hg, h0, h1, a1, a2, a3, hw]
        refine run_rename [0, 3] rfl (by simp) ?_ ?_ ?_ ih
        · rw [db_pos (by omega)]
          refine hfit_cons rfl (hb0 _) (hfit_cons rfl ?_ hfit_nil)
          exact bfit_g (scs_rens ..)
        · simp [uniq, hwb, wrB, db]
        · rw [dv_pos (by omega)]
          simp only [go_sem, hfit, lc_fit, scs_fit, fit, ren, gmap, lw_plain, true_or, or_true, hrs]
    · have h1 : ((i : Int) < (N : Int)) = False := eq_false (by omega)
      have hv : fl f N i = 3 * i + 2 := (if_neg hlt).trans (Nat.mod_eq_of_lt (by omega))
      by_cases hz : i = 0
      · subst hz
        have h0' : ((0 : Int) < (n : Int)) = True := eq_true (by omega)
        have h1' : ((0 : Int) < (N : Int)) = False := eq_false (by omega)
        rw [dv_zero', show db (fl f N) 0 = none from rfl]
        have hb := scs_s1 (fl f N) hv
        refine run_loop_eq v6_9.eq_1 ?_
        refine run_driveS 80 ?_
        simp only [go_sem, v6_7, v6_3, v6_4, h0', h1', hkn, hlen, hone]
        refine run_cond_f (by rfl) ?_
        refine run_driveS 80 ?_
        simp only [go_sem, v6_6]
        refine run_call' rfl ?_
        simp only [go_sem, calV]
        refine int' 2 (by decide) ?_
        refine run_driveS 80 ?_
        simp only [go_sem, v6_8]
        refine run_rename [0, 3] rfl (by simp) ?_ ?_ ?_ ih
        · rw [db_pos (by omega)]
          refine hfit_cons rfl (hb0 _) (hfit_cons rfl ?_ hfit_nil)
          rw [hb]; exact bfit_g (lc_rens ..)
        · simp [uniq, hwb, wrB, db]
        · rw [dv_pos (by omega)]
          simp only [go_sem, hfit, lc_fit, scs_fit, fit, ren, gmap, lw_plain, true_or, or_true, hrs]
      · have hp : 0 < i := by omega
        rw [dv_pos hp, db_pos hp]
        have a1 : ((i + 1) * 32 ≤ 140737488355328) = True := eq_true (by omega)
        have a2 : (i + 1 ≤ 9223372036854775807) = True := eq_true (by omega)
        have a3 := scs_snoc i (fl f N) hv
        refine run_loop_eq v6_9.eq_1 ?_
        refine run_driveS 80 ?_
        simp only [go_sem, v6_7, v6_3, v6_4, h0, h1, hkn, hlen, hone]
        refine run_cond_f (by rfl) ?_
        refine run_driveS 80 ?_
        simp only [go_sem, v6_6, h3, h4, h5, hw]
        refine run_call' rfl ?_
        simp only [go_sem, calV]
        refine int' (3 * i + 2) (by omega) ?_
        refine run_driveS 80 ?_
        simp only [go_sem, v6_8, a1, a2, a3, hw]
        refine run_rename [0, 3] rfl (by simp) ?_ ?_ ?_ ih
        · rw [db_pos (by omega)]
          refine hfit_cons rfl (hb0 _) (hfit_cons rfl ?_ hfit_nil)
          exact bfit_g (scs_rens ..)
        · simp [uniq, hwb, wrB, db]
        · rw [dv_pos (by omega)]
          simp only [go_sem, hfit, lc_fit, scs_fit, fit, ren, gmap, lw_plain, true_or, or_true, hrs]
  · have h0 : ((n : Int) < (n : Int)) = False := eq_false (by omega)
    rw [dv_pos hn0, db_pos hn0]
    refine run_loop_eq v6_9.eq_1 ?_
    refine run_driveS 80 ?_
    simp only [go_sem, v6_7, v6_3, h0]
    refine run_exit rfl ?_
    refine run_driveS 80 ?_
    simp only [go_sem, v6_11]
    refine run_ret_drop Tryd.func6 res6 [0, 1] (.sl 1 0 n (.grow 4)) _ rfl (by simp) ?_ ?_ ?_ hQ
    · exact hfit_cons rfl (hb0 _) (hfit_cons rfl (bfit_g (scs_rens ..)) hfit_nil)
    · simp [uniq, hwb, wrB]
    · simp only [go_sem, rr6, ren, gmap]
theorem line_of_ (f : Nat → Nat) (n : Nat) (hn0 : 0 < n) (hn : n ≤ 100) (c : Cap) (Q : V → Heap → Prop) (hQ : Q (.sl 1 0 n (.grow 4)) [some ⟨.ro, scs n f⟩, some ⟨.grow, scs n f⟩]) : VCall Tryd.prog G 5 [.sl 0 0 n c] [some ⟨.ro, scs n f⟩] Q := by
  refine vcall_body Tryd.func5 nm5 code5 nt5 ?_
  refine run_driveS 80 ?_
  simp only [go_sem, v5, v5_0, v5_1, v5_2, v5_8]
  refine run_rename [0, 1] (st' := ⟨[.sl 0 0 n c, .unk, .nils, dv 1 0, .int .i64 (0 : Nat)] ++ List.replicate 15 .unk, [some ⟨.ro, scs n f⟩, db f 0]⟩) rfl (by simp) ?_ ?_ ?_ (run_for (fun i => ⟨[.sl 0 0 n c, .unk, .nils, dv 1 i, .int .i64 (i : Nat)] ++ List.replicate 15 .unk, [some ⟨.ro, scs n f⟩, db f i]⟩) n (fun i hin ih => ?_) ?_)
  · exact hfit_cons rfl (bfit_same (scs_rens ..)) (hfit_cons_none hfit_nil)
  · simp [uniq, wrB, db]
  · rw [dv_zero']
    simp only [go_sem, hfit, lc_fit, scs_fit, fit, ren, gmap, lw_plain, true_or, or_true]
  · have h0 : ((i : Int) < (n : Int)) = True := eq_true (by omega)
    have hw : IntKind.i64.wrap ((i : Int) + 1) = ((i + 1 : Nat) : Int) := by rw [wrap_i64 (by omega) (by omega)]; omega
    have hg := scs_get' n f (i := i) hin
    by_cases hz : i = 0
    · subst hz
      have h0' : ((0 : Int) < (n : Int)) = True := eq_true (by omega)
      rw [Nat.zero_mul, List.drop_zero] at hg
      rw [dv_zero', show db f 0 = none from rfl]
      have hb := scs_s1 f rfl
      refine run_loop_eq v5_7.eq_1 ?_
      refine run_driveS 80 ?_
      simp only [go_sem, v5_5, v5_3, v5_4, v5_6, h0', hg, lenO_sl]
      refine run_rename [0, 3] rfl (by simp) ?_ ?_ ?_ ih
      · rw [db_pos (by omega)]
        refine hfit_cons rfl (bfit_same (scs_rens ..)) (hfit_cons rfl ?_ hfit_nil)
        rw [hb]; exact bfit_g (lc_rens ..)
      · simp [uniq, wrB, db]
      · rw [dv_pos (by omega)]
        simp only [go_sem, hfit, lc_fit, scs_fit, fit, ren, gmap, lw_plain, true_or, or_true]
    · have hp : 0 < i := by omega
      rw [dv_pos hp, db_pos hp]
      have a1 : ((i + 1) * 32 ≤ 140737488355328) = True := eq_true (by omega)
      have a2 : (i + 1 ≤ 9223372036854775807) = True := eq_true (by omega)
      have a3 := scs_snoc i f rfl
      refine run_loop_eq v5_7.eq_1 ?_
      refine run_driveS 80 ?_
      simp only [go_sem, v5_5, v5_3, v5_4, v5_6, h0, hg, lenO_sl, a1, a2, a3, hw]
      refine run_rename [0, 3] rfl (by simp) ?_ ?_ ?_ ih
      · rw [db_pos (by omega)]
        refine hfit_cons rfl (bfit_same (scs_rens ..)) (hfit_cons rfl ?_ hfit_nil)
        exact bfit_g (scs_rens ..)
      · simp [uniq, wrB, db]
      · rw [dv_pos (by omega)]
        simp only [go_sem, hfit, lc_fit, scs_fit, fit, ren, gmap, lw_plain, true_or, or_true]
  · have h0 : ((n : Int) < (n : Int)) = False := eq_false (by omega)
    rw [dv_pos hn0, db_pos hn0]
    refine run_loop_eq v5_7.eq_1 ?_
    refine run_driveS 80 ?_
    simp only [go_sem, v5_5, v5_3, h0, lenO_sl]
    refine run_exit rfl ?_
    refine run_driveS 80 ?_
    simp only [go_sem, v5_9]
    refine run_ret_drop Tryd.func5 res5 [0, 1] (.sl 1 0 n (.grow 4)) _ rfl (by simp) ?_ ?_ ?_ hQ
    · exact hfit_cons rfl (bfit_same (scs_rens ..)) (hfit_cons rfl (bfit_g (scs_rens ..)) hfit_nil)
    · simp [uniq, wrB]
    · simp only [go_sem, rr5, ren, gmap]
end
end Go.Vs.Tryd
namespace Go.Vs.Tryd
instance nzell : NeZero ell := ⟨by decide⟩
end Go.Vs.Tryd
namespace Go.Vs.Tryd
open Go.Proofs
variable {G : Nat → List V}
set_option linter.unusedSimpArgs false
attribute [local go_sem] lenO_nils lenO_sl sliceAtV Int.sub_zero List.length_append List.all_append ge_iff_le gt_iff_lt Int.natCast_nonneg Int.toNat_natCast Nat.mul_one b_and_ll b_shr_ll b_mul_ll b_add_ll b_or_ll b_shl_ll pick_ll pick_lc pick_bb driveS stopV Option.isSome_some Option.isSome_none Kind.m Kind.w Kind.g look_ro look_rw look_grow drive stepV exo expo evs fillV isNil nilKind eqV eqL optA optM sliceAtV ev kn ldc stc splice appV srcV lenV setd wantV exitV rvs rv one List.length_cons List.length_nil List.cons_append List.nil_append List.append_nil List.replicate List.getD_cons_zero List.getD_cons_succ List.set_cons_zero List.set_cons_succ List.getElem?_cons_zero List.getElem?_cons_succ List.getElem?_nil List.take_succ_cons List.take_zero List.take_nil List.drop_succ_cons List.drop_zero List.drop_nil List.all_cons List.all_nil List.any_cons List.any_nil Bool.and_true Bool.true_and Bool.and_self Option.map_some Option.map_none Option.bind_some Option.some.injEq Nat.add_zero Nat.zero_add Int.toNat_zero Int.toNat_one Int.zero_add Int.add_zero if_true if_false ite_true ite_false and_true true_and and_self ne_eq not_false_eq_true not_true_eq_false decide_true decide_false Bool.false_eq_true Bool.not_true Bool.not_false beq_self_eq_true BEq.rfl Bool.not_eq_true Nat.le_refl Int.le_refl Nat.zero_le List.foldl List.map_cons List.map_nil Prod.mk.injEq Int.cast_ofNat_Int Int.zero_le_ofNat b_add_cc b_add_cl b_add_lc b_mul_cc b_mul_cl b_mul_lc b_sub_cc b_sub_cl b_sub_lc b_and_cc b_and_cl b_and_lc b_or_cc b_or_cl b_or_lc b_xor_cc b_xor_cl b_xor_lc b_andNot_cc b_andNot_cl b_andNot_lc b_shr_cc b_shr_cl b_shr_lc b_shl_cc b_shl_cl b_shl_lc b_lss b_leq b_gtr b_geq b_add_i b_sub_i b_mul_i beq_cc beq_cl beq_lc beq_ll b_quo_i b_rem_i neg_u64 wrap_i64 driveD stepD idsAt idOf maskH_nil restore_nil restore_mask List.filterMap_nil List.filterMap_cons VOp.looks VOp.makes exA cells_agg cells_int cells_bool cells_str cells_nilp cells_ptr cells_glob cells_nils cells_sl cells_nilf cells_fn cells_nili cells_ifc known_agg known_tup known_int known_bool known_str known_nilp known_ptr known_glob known_nils known_sl known_nilf known_fn known_nili known_ifc known_unk one_agg one_tup one_int one_bool one_str one_nilp one_ptr one_glob one_nils one_sl one_nilf one_fn one_nili one_ifc asK_int asN_int asB_bool asS_str asG_agg asT_tup true_or or_true false_or or_false
theorem uniq_nodup' {μ : List Nat} {h' : Heap} (hn : μ.Nodup) : uniq μ h' := by
  unfold uniq
  refine List.pairwise_iff_getElem.2 fun i j hi hj hij _ => ?_
  simp only [List.getElem_zip]
  exact List.pairwise_iff_getElem.1 hn i j _ _ hij
theorem jb_g {f : Nat → Nat} {k : Kind} {c : List V} (h : rens f c = c) : bfit f (some ⟨k, c⟩) (some ⟨k, c⟩) := ⟨.inl rfl, fit_same h⟩
theorem jb_ro {f : Nat → Nat} {k : Kind} {c c' : List V} (h : rens f c = c') (hk : k.m = true := by rfl) : bfit f (some ⟨.ro, c⟩) (some ⟨k, c'⟩) := ⟨.inr ⟨rfl, hk⟩, by rw [← h]; exact fit_rens f c⟩
theorem jb_rw {f : Nat → Nat} {k : Kind} {c c' : List V} (h : rens f c = c') : bfit f (some ⟨k, c⟩) (some ⟨k, c'⟩) := ⟨.inl rfl, by rw [← h]; exact fit_rens f c⟩
end Go.Vs.Tryd
namespace Go.Vs.Tryd
open Go.Proofs
variable {G : Nat → List V}
set_option linter.unusedSimpArgs false
attribute [local go_sem] lenO_nils lenO_sl sliceAtV Int.sub_zero List.length_append List.all_append ge_iff_le gt_iff_lt Int.natCast_nonneg Int.toNat_natCast Nat.mul_one b_and_ll b_shr_ll b_mul_ll b_add_ll b_or_ll b_shl_ll pick_ll pick_lc pick_bb driveS stopV Option.isSome_some Option.isSome_none Kind.m Kind.w Kind.g look_ro look_rw look_grow drive stepV exo expo evs fillV isNil nilKind eqV eqL optA optM sliceAtV ev kn ldc stc splice appV srcV lenV setd wantV exitV rvs rv one List.length_cons List.length_nil List.cons_append List.nil_append List.append_nil List.replicate List.getD_cons_zero List.getD_cons_succ List.set_cons_zero List.set_cons_succ List.getElem?_cons_zero List.getElem?_cons_succ List.getElem?_nil List.take_succ_cons List.take_zero List.take_nil List.drop_succ_cons List.drop_zero List.drop_nil List.all_cons List.all_nil List.any_cons List.any_nil Bool.and_true Bool.true_and Bool.and_self Option.map_some Option.map_none Option.bind_some Option.some.injEq Nat.add_zero Nat.zero_add Int.toNat_zero Int.toNat_one Int.zero_add Int.add_zero if_true if_false ite_true ite_false and_true true_and and_self ne_eq not_false_eq_true not_true_eq_false decide_true decide_false Bool.false_eq_true Bool.not_true Bool.not_false beq_self_eq_true BEq.rfl Bool.not_eq_true Nat.le_refl Int.le_refl Nat.zero_le List.foldl List.map_cons List.map_nil Prod.mk.injEq Int.cast_ofNat_Int Int.zero_le_ofNat b_add_cc b_add_cl b_add_lc b_mul_cc b_mul_cl b_mul_lc b_sub_cc b_sub_cl b_sub_lc b_and_cc b_and_cl b_and_lc b_or_cc b_or_cl b_or_lc b_xor_cc b_xor_cl b_xor_lc b_andNot_cc b_andNot_cl b_andNot_lc b_shr_cc b_shr_cl b_shr_lc b_shl_cc b_shl_cl b_shl_lc b_lss b_leq b_gtr b_geq b_add_i b_sub_i b_mul_i beq_cc beq_cl beq_lc beq_ll b_quo_i b_rem_i neg_u64 wrap_i64 driveD stepD idsAt idOf maskH_nil restore_nil restore_mask List.filterMap_nil List.filterMap_cons VOp.looks VOp.makes exA cells_agg cells_int cells_bool cells_str cells_nilp cells_ptr cells_glob cells_nils cells_sl cells_nilf cells_fn cells_nili cells_ifc known_agg known_tup known_int known_bool known_str known_nilp known_ptr known_glob known_nils known_sl known_nilf known_fn known_nili known_ifc known_unk one_agg one_tup one_int one_bool one_str one_nilp one_ptr one_glob one_nils one_sl one_nilf one_fn one_nili one_ifc asK_int asN_int asB_bool asS_str asG_agg asT_tup true_or or_true false_or or_false
attribute [local go_sem_proc] Nat.reduceAdd Nat.reduceSub Nat.reduceLeDiff Nat.reduceMul Nat.reduceLT Nat.reduceEqDiff Int.reduceLT Int.reduceLE Int.reduceAdd Int.reduceSub Int.reduceMul Int.reduceToNat reduceIte reduceCtorEq Nat.reduceBEq
section
attribute [local go_sem ↓] lc_len lc_take lc_drop lc_known lc_one lc_rens lc_cells lw_known lw_agg lw_asG scs_known scs_one scs_len
attribute [local go_sem] lt_nat lt_natl lt_lnat lt_ll bool_tf bool_ft
set_option maxRecDepth 100000
set_option maxHeartbeats 2000000
theorem m_addS : methV Tryd.prog 32 "Add" = some 15 := by kernel_rfl
theorem m_subS : methV Tryd.prog 32 "Sub" = some 19 := by kernel_rfl
theorem m_mulS : methV Tryd.prog 32 "Mul" = some 13 := by kernel_rfl
theorem m_invS : methV Tryd.prog 32 "Invert" = some 18 := by kernel_rfl
theorem jz4 : [V.int .u64 (nl 0), .int .u64 (nl 0), .int .u64 (nl 0), .int .u64 (nl 0)] = lc 0 := rfl
def inn (a b : Nat → Nat) : Nat → Nat
  | 0 => 0
  | i + 1 => (inn a b i + a i * b i % ell) % ell
theorem inn_lt (a b : Nat → Nat) (i : Nat) : inn a b i < 115792089237316195423570985008687907853269984665640564039457584007913129639936 := by
  cases i with
  | zero => exact (by decide : 0 < 115792089237316195423570985008687907853269984665640564039457584007913129639936)
  | succ i => exact mod_lt _
theorem inner_ (hG : G 0 = tbl) (a b : Nat → Nat) (m : Nat) (ha : ∀ j, j < m → a j < 115792089237316195423570985008687907853269984665640564039457584007913129639936) (hb : ∀ j, j < m → b j < 115792089237316195423570985008687907853269984665640564039457584007913129639936) (hm : m ≤ 100000) (X Y : List V) (oa ob : Nat) (hx : ∀ i, i < m → (X.drop (oa + i * 4)).take 4 = lc (a i)) (hy : ∀ i, i < m → (Y.drop (ob + i * 4)).take 4 = lc (b i)) (rX : ∀ f, rens f X = X) (rY : ∀ f, rens f Y = Y) (ca cb : Cap) {Q : V → Heap → Prop}
    (hQ : Q (.tup [lw (inn a b m), .int .i64 0]) [none, none]) : VCall Tryd.prog G 25 [.sl 0 oa m ca, .sl 1 ob m cb] [some ⟨.ro, X⟩, some ⟨.ro, Y⟩] Q := by
  refine vcall_body Tryd.func25 nm25 code25 nt25 ?_
  refine run_driveS 80 ?_
  simp only [go_sem, v25, v25_0, v25_1, v25_2, jz4]
  refine run_cond_f (by rfl) ?_
  refine run_driveS 80 ?_
  simp only [go_sem, v25_4, v25_11]
  refine run_rename [0, 1, 2, 3] (st' := ⟨[.sl 0 oa m ca, .sl 1 ob m cb, .unk, .unk, .ptr 2 0, .unk, .ptr 3 0] ++ List.replicate 8 .unk ++ [.sl 0 oa m ca, .int .i64 m, .int .i64 (0 : Nat)] ++ List.replicate 16 .unk, [some ⟨.ro, X⟩, some ⟨.ro, Y⟩, some ⟨.rw, lc 0⟩, some ⟨.rw, lc (inn a b 0)⟩]⟩) rfl (by simp) ?_ (uniq_nodup' (by decide)) ?_ (run_for (fun i => ⟨[.sl 0 oa m ca, .sl 1 ob m cb, .unk, .unk, .ptr 2 0, .unk, .ptr 3 0] ++ List.replicate 8 .unk ++ [.sl 0 oa m ca, .int .i64 m, .int .i64 i] ++ List.replicate 16 .unk, [some ⟨.ro, X⟩, some ⟨.ro, Y⟩, some ⟨.rw, lc 0⟩, some ⟨.rw, lc (inn a b i)⟩]⟩) m (fun i hi ih => ?_) ?_)
  · exact hfit_cons rfl (jb_g (rX _)) (hfit_cons rfl (jb_g (rY _)) (hfit_cons rfl (jb_g (lc_rens ..)) (hfit_cons rfl (jb_g (lc_rens ..)) hfit_nil)))
  · simp only [go_sem, fit, ren, gmap, true_or, or_true]
  · have h0 : ((i : Int) < (m : Int)) = True := eq_true (by omega)
    have g1 := hx i hi
    have g2 := hy i hi
    have hw : IntKind.i64.wrap ((i : Int) + 1) = ((i + 1 : Nat) : Int) := by rw [wrap_i64 (by omega) (by omega)]; omega
    refine run_loop_eq v25_10.eq_1 ?_
    refine run_driveS 80 ?_
    simp only [go_sem, v25_5, v25_8, v25_6, h0, g1, jz4]
    refine run_drw (by kernel_rfl) ?_
    refine drun_drive 40 (p := (_, _)) ?_
    simp only [go_sem, v25_7, h0, g2, restore, Option.join_some, maskH, List.mapIdx_cons, List.mapIdx_nil, List.contains_cons, List.contains_nil, Bool.or_false, Bool.or_true, Bool.false_or, Bool.true_or, Nat.reduceBEq]
    refine drun_call' ?_
    simp only [go_sem, calV, m_mulS, restore, Option.join_some, maskH, List.mapIdx_cons, List.mapIdx_nil, List.contains_cons, List.contains_nil, Bool.or_false, Bool.or_true, Bool.false_or, Bool.true_or, Nat.reduceBEq]
    refine mul' hG _ _ (ha i hi) (hb i hi) ?_
    refine drun_drive 40 (p := (_, _)) ?_
    simp only [go_sem, restore, Option.join_some, maskH, List.mapIdx_cons, List.mapIdx_nil, List.contains_cons, List.contains_nil, Bool.or_false, Bool.or_true, Bool.false_or, Bool.true_or, Nat.reduceBEq]
    refine drun_call' ?_
    simp only [go_sem, calV, m_addS, restore, Option.join_some, maskH, List.mapIdx_cons, List.mapIdx_nil, List.contains_cons, List.contains_nil, Bool.or_false, Bool.or_true, Bool.false_or, Bool.true_or, Nat.reduceBEq]
    refine add_ hG _ _ (inn_lt ..) (mod_lt _) ?_
    refine drun_drive 40 (p := (_, _)) ?_
    simp only [go_sem, restore, Option.join_some, maskH, List.mapIdx_cons, List.mapIdx_nil, List.contains_cons, List.contains_nil, Bool.or_false, Bool.or_true, Bool.false_or, Bool.true_or, Nat.reduceBEq]
    refine drun_end ?_
    refine run_driveS 80 ?_
    simp only [go_sem, v25_9, hw]
    refine run_rename [0, 1, 2, 3] rfl (by simp) ?_ (uniq_nodup' (by decide)) ?_ ih
    · exact hfit_cons rfl (jb_g (rX _)) (hfit_cons rfl (jb_g (rY _)) (hfit_cons rfl (jb_g (lc_rens ..)) (hfit_cons rfl (jb_g (lc_rens ..)) hfit_nil)))
    · simp only [go_sem, fit, ren, gmap, true_or, or_true]
  · have h0 : ((m : Int) < (m : Int)) = False := eq_false (by omega)
    refine run_loop_eq v25_10.eq_1 ?_
    refine run_driveS 80 ?_
    simp only [go_sem, v25_5, h0]
    refine run_exit rfl ?_
    refine run_driveS 80 ?_
    simp only [go_sem, v25_12]
    refine run_ret_drop Tryd.func25 res25 [0, 1] (.tup [lw (inn a b m), .int .i64 0]) _ rfl (by simp) ?_ (uniq_nodup' (by decide)) ?_ hQ
    · exact hfit_cons_none (hfit_cons_none hfit_nil)
    · simp only [go_sem, rr25, ren, rens, gmap, lw_plain]
def tms (n : Nat) (K P : Nat → Nat) : List V := row n fun j => lc (K j) ++ lc (P j)
theorem tms_len (n : Nat) (K P : Nat → Nat) : (tms n K P).length = n * 8 := row_len (s := 8) (e := fun j => lc (K j) ++ lc (P j)) (fun _ => rfl) n
theorem tms_get (n : Nat) (K P : Nat → Nat) {i : Nat} (h : i < n) : ((tms n K P).drop (i * 8)).take 8 = lc (K i) ++ lc (P i) := row_get' (s := 8) (e := fun j => lc (K j) ++ lc (P j)) (fun _ => rfl) h
theorem tms_known (n : Nat) (K P : Nat → Nat) : (tms n K P).all V.known = true := row_all (fun _ => rfl) n
theorem tms_one (n : Nat) (K P : Nat → Nat) : (tms n K P).all V.one = true := row_all (fun _ => rfl) n
theorem tms_rens (n : Nat) (K P : Nat → Nat) (f : Nat → Nat) : rens f (tms n K P) = tms n K P := row_rens (fun j => by rw [rens_append, lc_rens, lc_rens]) n
theorem tms_snoc (n : Nat) (K P : Nat → Nat) : tms n K P ++ (lc (K n) ++ lc (P n)) = tms (n + 1) K P := rfl
theorem d8 (a b : Nat) : (lc a ++ lc b).drop 8 = [] := rfl
theorem k8 (a b : Nat) : (lc a ++ lc b).take 4 = lc a := rfl
theorem p8 (a b : Nat) : ((lc a ++ lc b).drop 4).take 4 = lc b := rfl
theorem l8 (a b : Nat) : (lc a ++ lc b).length = 8 := rfl
theorem n8 (a b : Nat) : (lc a ++ lc b).all V.known = true := rfl
theorem o8 (a b : Nat) : (lc a ++ lc b).all V.one = true := rfl
def psum (K P : Nat → Nat) : Nat → Nat
  | 0 => 0
  | i + 1 => (psum K P i + P i * K i % ell) % ell
theorem psum_lt (K P : Nat → Nat) (i : Nat) : psum K P i < 115792089237316195423570985008687907853269984665640564039457584007913129639936 := by
  cases i with
  | zero => exact (by decide : 0 < 115792089237316195423570985008687907853269984665640564039457584007913129639936)
  | succ i => exact mod_lt _
theorem plain_ (hG : G 0 = tbl) (K P : Nat → Nat) (n : Nat) (hK : ∀ j, j < n → K j < 115792089237316195423570985008687907853269984665640564039457584007913129639936) (hP : ∀ j, j < n → P j < 115792089237316195423570985008687907853269984665640564039457584007913129639936) (hn : n ≤ 100000) (c : Cap) {Q : V → Heap → Prop}
    (hQ : Q (lw (psum K P n)) [none]) : VCall Tryd.prog G 38 [.sl 0 0 n c] [some ⟨.ro, tms n K P⟩] Q := by
  have z8 : [V.int .u64 (nl 0), .int .u64 (nl 0), .int .u64 (nl 0), .int .u64 (nl 0), .int .u64 (nl 0), .int .u64 (nl 0), .int .u64 (nl 0), .int .u64 (nl 0)] = lc 0 ++ lc 0 := rfl
  refine vcall_body Tryd.func38 nm38 code38 nt38 ?_
  refine run_driveS 80 ?_
  simp only [go_sem, v38, v38_0, v38_1, jz4]
  refine run_driveS 80 ?_
  simp only [go_sem, v38_2, v38_9]
  refine run_rename [0, 1, 2] (st' := ⟨[.unk, .unk, .ptr 1 0, .ptr 2 0, .unk, .unk, .sl 0 0 n c, .int .i64 n, .int .i64 (0 : Nat)] ++ List.replicate 14 .unk, [some ⟨.ro, tms n K P⟩, some ⟨.rw, lc 0⟩, some ⟨.rw, lc (psum K P 0)⟩]⟩) rfl (by simp) ?_ (uniq_nodup' (by decide)) ?_ (run_for (fun i => ⟨[.unk, .unk, .ptr 1 0, .ptr 2 0, .unk, .unk, .sl 0 0 n c, .int .i64 n, .int .i64 i] ++ List.replicate 14 .unk, [some ⟨.ro, tms n K P⟩, some ⟨.rw, lc 0⟩, some ⟨.rw, lc (psum K P i)⟩]⟩) n (fun i hi ih => ?_) ?_)
  · exact hfit_cons rfl (jb_g (tms_rens ..)) (hfit_cons rfl (jb_g (lc_rens ..)) (hfit_cons rfl (jb_g (lc_rens ..)) hfit_nil))
  · simp only [go_sem, fit, ren, gmap, true_or, or_true]
  · have h0 : ((i : Int) < (n : Int)) = True := eq_true (by omega)
    have g1 := tms_get n K P hi
    have hw : IntKind.i64.wrap ((i : Int) + 1) = ((i + 1 : Nat) : Int) := by rw [wrap_i64 (by omega) (by omega)]; omega
    refine run_loop_eq v38_8.eq_1 ?_
    refine run_driveS 80 ?_
    simp only [go_sem, v38_3, v38_6, v38_4, h0, g1, z8, d8, List.append_nil, k8, p8, l8, n8, o8]
    refine run_drw (by kernel_rfl) ?_
    refine drun_drive 40 (p := (_, _)) ?_
    simp only [go_sem, v38_5, d8, List.append_nil, k8, p8, l8, n8, o8, restore, Option.join_some, maskH, List.mapIdx_cons, List.mapIdx_nil, List.contains_cons, List.contains_nil, Bool.or_false, Bool.or_true, Bool.false_or, Bool.true_or, Nat.reduceBEq]
    refine drun_call' ?_
    simp only [go_sem, calV, m_times, restore, Option.join_some, maskH, List.mapIdx_cons, List.mapIdx_nil, List.contains_cons, List.contains_nil, Bool.or_false, Bool.or_true, Bool.false_or, Bool.true_or, Nat.reduceBEq]
    refine line_times hG _ _ (hP i hi) (hK i hi) ?_
    refine drun_drive 40 (p := (_, _)) ?_
    simp only [go_sem, restore, Option.join_some, maskH, List.mapIdx_cons, List.mapIdx_nil, List.contains_cons, List.contains_nil, Bool.or_false, Bool.or_true, Bool.false_or, Bool.true_or, Nat.reduceBEq]
    refine drun_call' ?_
    simp only [go_sem, calV, m_add, restore, Option.join_some, maskH, List.mapIdx_cons, List.mapIdx_nil, List.contains_cons, List.contains_nil, Bool.or_false, Bool.or_true, Bool.false_or, Bool.true_or, Nat.reduceBEq]
    refine line_add hG _ _ (psum_lt ..) (mod_lt _) ?_
    refine drun_drive 40 (p := (_, _)) ?_
    simp only [go_sem, restore, Option.join_some, maskH, List.mapIdx_cons, List.mapIdx_nil, List.contains_cons, List.contains_nil, Bool.or_false, Bool.or_true, Bool.false_or, Bool.true_or, Nat.reduceBEq]
    refine drun_end ?_
    refine run_driveS 80 ?_
    simp only [go_sem, v38_7, hw]
    refine run_rename [0, 1, 2] rfl (by simp) ?_ (uniq_nodup' (by decide)) ?_ ih
    · exact hfit_cons rfl (jb_g (tms_rens ..)) (hfit_cons rfl (jb_g (lc_rens ..)) (hfit_cons rfl (jb_g (lc_rens ..)) hfit_nil))
    · simp only [go_sem, fit, ren, gmap, true_or, or_true]
  · have h0 : ((n : Int) < (n : Int)) = False := eq_false (by omega)
    refine run_loop_eq v38_8.eq_1 ?_
    refine run_driveS 80 ?_
    simp only [go_sem, v38_3, h0]
    refine run_exit rfl ?_
    refine run_driveS 80 ?_
    simp only [go_sem, v38_10]
    refine run_ret_drop Tryd.func38 res38 [0] (lw (psum K P n)) _ rfl (by simp) ?_ (uniq_nodup' (by decide)) ?_ hQ
    · exact hfit_cons_none hfit_nil
    · simp only [go_sem, rr38, ren, rens, gmap, lw_plain]
end
section
attribute [local go_sem ↓] lc_len lc_take lc_drop lc_known lc_one lc_rens lc_cells lw_known lw_agg lw_asG scs_known scs_one scs_len lc_take_add lc_drop_add
attribute [local go_sem ↓] d8 k8 p8 l8 n8 o8 tms_known tms_one tms_len tms_rens
attribute [local go_sem] lt_nat lt_natl lt_lnat lt_ll bool_tf bool_ft
set_option maxRecDepth 100000
set_option maxHeartbeats 2000000
theorem bt8 (a b : Nat) (r : List V) : List.take 8 (lc a ++ lc b ++ r) = lc a ++ lc b := rfl
theorem bd16 (a b : Nat) (x0 x1 x2 x3 x4 x5 x6 x7 : V) : List.drop 16 (lc a ++ lc b ++ [x0, x1, x2, x3, x4, x5, x6, x7]) = [] := rfl
theorem bt16 (a b c d : Nat) (r : List V) : List.take 16 (lc a ++ lc b ++ (lc c ++ lc d) ++ r) = lc a ++ lc b ++ (lc c ++ lc d) := rfl
theorem bt16' (a b c d : Nat) : List.take 16 (lc a ++ lc b ++ (lc c ++ lc d)) = lc a ++ lc b ++ (lc c ++ lc d) := rfl
theorem tms_take (n : Nat) (K P : Nat → Nat) : (tms n K P).take (n * 8) = tms n K P := List.take_of_length_le (by rw [tms_len]; exact Nat.le_refl _)
theorem t8a (K P : Nat → Nat) : (tms 1 K P).take 8 = tms 1 K P := rfl
def tK (c : Nat) (a b : Nat → Nat) (j : Nat) : Nat := if j = 0 then c else if j % 2 = 1 then a (j / 2) else b (j / 2 - 1)
theorem tK_a (c : Nat) (a b : Nat → Nat) (i : Nat) : tK c a b (1 + 2 * i) = a i := by
  unfold tK
  rw [if_neg (by omega), if_pos (by omega), show (1 + 2 * i) / 2 = i by omega]
theorem tK_b (c : Nat) (a b : Nat → Nat) (i : Nat) : tK c a b (1 + 2 * i + 1) = b i := by
  unfold tK
  rw [if_neg (by omega), if_neg (by omega), show (1 + 2 * i + 1) / 2 - 1 = i by omega]
theorem tK_lt {c : Nat} {a b : Nat → Nat} {m : Nat} (hc : c < 115792089237316195423570985008687907853269984665640564039457584007913129639936) (ha : ∀ j, j < m → a j < 115792089237316195423570985008687907853269984665640564039457584007913129639936) (hb : ∀ j, j < m → b j < 115792089237316195423570985008687907853269984665640564039457584007913129639936) : ∀ j, j < 1 + 2 * m → tK c a b j < 115792089237316195423570985008687907853269984665640564039457584007913129639936 := fun j hj => by
  unfold tK
  split
  · exact hc
  · split
    · exact ha _ (by omega)
    · exact hb _ (by omega)
theorem tms_two (c q : Nat) (a b g h : Nat → Nat) (i : Nat) : tms (1 + 2 * i) (tK c a b) (tK q g h) ++ (lc (a i) ++ lc (g i) ++ (lc (b i) ++ lc (h i))) = tms (1 + 2 * (i + 1)) (tK c a b) (tK q g h) := by
  rw [show 1 + 2 * (i + 1) = 1 + 2 * i + 1 + 1 by omega, ← tms_snoc, ← tms_snoc, tK_a, tK_a, tK_b, tK_b]
  simp only [List.append_assoc]
theorem tms_fst (c q : Nat) (a b g h : Nat → Nat) : lc c ++ lc q = tms 1 (tK c a b) (tK q g h) := rfl
def tvi (i : Nat) : V := if i = 0 then .sl 7 0 1 (.exact 1) else .sl 7 0 (1 + 2 * i) (.grow 8)
def tbi (c q : Nat) (a b g h : Nat → Nat) (i : Nat) : Option Blk := some ⟨if i = 0 then .rw else .grow, tms (1 + 2 * i) (tK c a b) (tK q g h)⟩
theorem image_ (hG : G 0 = tbl) (q c : Nat) (hq : q < 115792089237316195423570985008687907853269984665640564039457584007913129639936) (hc : c < 115792089237316195423570985008687907853269984665640564039457584007913129639936) (g h a b : Nat → Nat) (m : Nat) (hg : ∀ j, j < m → g j < 115792089237316195423570985008687907853269984665640564039457584007913129639936) (hh : ∀ j, j < m → h j < 115792089237316195423570985008687907853269984665640564039457584007913129639936) (ha : ∀ j, j < m → a j < 115792089237316195423570985008687907853269984665640564039457584007913129639936) (hb : ∀ j, j < m → b j < 115792089237316195423570985008687907853269984665640564039457584007913129639936) (hm : 0 < m) (hm8 : m ≤ 11) (Xg Xh Xa Xb : List V) (og oh oa ob : Nat)
    (eg : ∀ i, i < m → (Xg.drop (og + i * 4)).take 4 = lc (g i)) (eh : ∀ i, i < m → (Xh.drop (oh + i * 4)).take 4 = lc (h i)) (ea : ∀ i, i < m → (Xa.drop (oa + i * 4)).take 4 = lc (a i)) (eb : ∀ i, i < m → (Xb.drop (ob + i * 4)).take 4 = lc (b i))
    (rg : ∀ f, rens f Xg = Xg) (rh : ∀ f, rens f Xh = Xh) (ra : ∀ f, rens f Xa = Xa) (rb : ∀ f, rens f Xb = Xb) (cg ch ca cb : Cap) {Q : V → Heap → Prop}
    (hQ : Q (lw (psum (tK c a b) (tK q g h) (1 + 2 * m))) [none, none, none, none]) : VCall Tryd.prog G 26 [lw q, .sl 0 og m cg, .sl 1 oh m ch, .sl 2 oa m ca, .sl 3 ob m cb, lw c] [some ⟨.ro, Xg⟩, some ⟨.ro, Xh⟩, some ⟨.ro, Xa⟩, some ⟨.ro, Xb⟩] Q := by
  refine vcall_body Tryd.func26 nm26 code26 nt26 ?_
  refine run_driveS 80 ?_
  simp only [go_sem, v26, v26_0, jz4]
  refine run_driveS 80 ?_
  simp only [go_sem, v26_1]
  refine run_driveS 80 ?_
  simp only [go_sem, v26_2, v26_9]
  refine run_rename [0, 1, 2, 3, 4, 5, 6, 7] (st' := ⟨[.unk, .sl 0 og m cg, .sl 1 oh m ch, .sl 2 oa m ca, .sl 3 ob m cb, .unk, .ptr 4 0, .unk, .unk, .unk, .unk, .ptr 5 0, .ptr 6 0, tvi 0] ++ List.replicate 8 .unk ++ [.sl 2 oa m ca, .int .i64 m, .int .i64 (0 : Nat)] ++ List.replicate 34 .unk, [some ⟨.ro, Xg⟩, some ⟨.ro, Xh⟩, some ⟨.ro, Xa⟩, some ⟨.ro, Xb⟩, some ⟨.rw, lc q⟩, some ⟨.rw, lc c⟩, some ⟨.rw, lc 0⟩, tbi c q a b g h 0]⟩) rfl (by simp) ?_ (uniq_nodup' (by decide)) ?_ (run_for (fun i => ⟨[.unk, .sl 0 og m cg, .sl 1 oh m ch, .sl 2 oa m ca, .sl 3 ob m cb, .unk, .ptr 4 0, .unk, .unk, .unk, .unk, .ptr 5 0, .ptr 6 0, tvi i] ++ List.replicate 8 .unk ++ [.sl 2 oa m ca, .int .i64 m, .int .i64 i] ++ List.replicate 34 .unk, [some ⟨.ro, Xg⟩, some ⟨.ro, Xh⟩, some ⟨.ro, Xa⟩, some ⟨.ro, Xb⟩, some ⟨.rw, lc q⟩, some ⟨.rw, lc c⟩, some ⟨.rw, lc 0⟩, tbi c q a b g h i]⟩) m (fun i hi ih => ?_) ?_)
  · exact hfit_cons rfl (jb_g (rg _)) (hfit_cons rfl (jb_g (rh _)) (hfit_cons rfl (jb_g (ra _)) (hfit_cons rfl (jb_g (rb _)) (hfit_cons rfl (jb_g (lc_rens ..)) (hfit_cons rfl (jb_g (lc_rens ..)) (hfit_cons rfl (jb_g (lc_rens ..)) (hfit_cons rfl (jb_rw ((tms_rens ..).trans (tms_fst ..).symm)) hfit_nil)))))))
  · simp only [go_sem, tvi, fit, ren, gmap, true_or, or_true]
  · have h0 : ((i : Int) < (m : Int)) = True := eq_true (by omega)
    have g1 := ea i hi
    have g2 := eg i hi
    have g3 := eb i hi
    have g4 := eh i hi
    have g5 := tms_two c q a b g h i
    have a1 : ((1 + 2 * i + 2) * 64 ≤ 140737488355328) = True := eq_true (by omega)
    have a2 : (1 + 2 * i + 2 ≤ 9223372036854775807) = True := eq_true (by omega)
    have z16 : [V.int .u64 (nl 0), .int .u64 (nl 0), .int .u64 (nl 0), .int .u64 (nl 0), .int .u64 (nl 0), .int .u64 (nl 0), .int .u64 (nl 0), .int .u64 (nl 0), .int .u64 (nl 0), .int .u64 (nl 0), .int .u64 (nl 0), .int .u64 (nl 0), .int .u64 (nl 0), .int .u64 (nl 0), .int .u64 (nl 0), .int .u64 (nl 0)].length = 16 := rfl
    have hw : IntKind.i64.wrap ((i : Int) + 1) = ((i + 1 : Nat) : Int) := by rw [wrap_i64 (by omega) (by omega)]; omega
    by_cases hz : i = 0
    · subst hz
      have h0' : ((0 : Int) < (m : Int)) = True := eq_true (by omega)
      have hw0 : IntKind.i64.wrap 1 = 1 := by decide
      rw [show tvi 0 = .sl 7 0 1 (.exact 1) from rfl, show tbi c q a b g h 0 = some ⟨.rw, tms 1 (tK c a b) (tK q g h)⟩ from rfl]
      rw [Nat.zero_mul, Nat.add_zero] at g1 g2 g3 g4
      have g5' : tms 1 (tK c a b) (tK q g h) ++ (lc (a 0) ++ lc (g 0) ++ (lc (b 0) ++ lc (h 0))) = tms (1 + 2 * (0 + 1)) (tK c a b) (tK q g h) := g5
      refine run_loop_eq v26_8.eq_1 ?_
      refine run_driveS 80 ?_
      simp only [go_sem, v26_3, v26_6, v26_4, h0', g1, jz4]
      refine run_drw (by kernel_rfl) ?_
      refine drun_drive 40 (p := (_, _)) ?_
      simp only [go_sem, v26_5, h0', g2, g3, g4, g5', bt8, bd16, bt16, bt16', t8a, tms_take, restore, Option.join_some, maskH, List.mapIdx_cons, List.mapIdx_nil, List.contains_cons, List.contains_nil, Bool.or_false, Bool.or_true, Bool.false_or, Bool.true_or, Nat.reduceBEq]
      refine drun_end ?_
      refine run_driveS 80 ?_
      simp only [go_sem, v26_7, hw0]
      have ht1 : tvi (0 + 1) = .sl 7 0 (3) (.grow 8) := rfl
      rw [ht1] at ih
      refine run_rename [0, 1, 2, 3, 4, 5, 6, 10] rfl (by simp) ?_ (uniq_nodup' (by decide)) ?_ ih
      · exact hfit_cons rfl (jb_g (rg _)) (hfit_cons rfl (jb_g (rh _)) (hfit_cons rfl (jb_g (ra _)) (hfit_cons rfl (jb_g (rb _)) (hfit_cons rfl (jb_g (lc_rens ..)) (hfit_cons rfl (jb_g (lc_rens ..)) (hfit_cons rfl (jb_g (lc_rens ..)) (hfit_cons rfl (jb_g (tms_rens ..)) hfit_nil)))))))
      · simp only [go_sem, fit, ren, gmap, true_or, or_true]
    · rw [show tvi i = .sl 7 0 (1 + 2 * i) (.grow 8) from if_neg hz, show tbi c q a b g h i = some ⟨.grow, tms (1 + 2 * i) (tK c a b) (tK q g h)⟩ from by unfold tbi; rw [if_neg hz]]
      refine run_loop_eq v26_8.eq_1 ?_
      refine run_driveS 80 ?_
      simp only [go_sem, v26_3, v26_6, v26_4, h0, g1, jz4]
      refine run_drw (by kernel_rfl) ?_
      refine drun_drive 40 (p := (_, _)) ?_
      simp only [go_sem, v26_5, h0, g2, g3, g4, g5, a1, a2, bt8, bd16, bt16, bt16', t8a, tms_take, restore, Option.join_some, maskH, List.mapIdx_cons, List.mapIdx_nil, List.contains_cons, List.contains_nil, Bool.or_false, Bool.or_true, Bool.false_or, Bool.true_or, Nat.reduceBEq]
      refine drun_end ?_
      refine run_driveS 80 ?_
      simp only [go_sem, v26_7, hw]
      have ht1 : tvi (i + 1) = .sl 7 0 (1 + 2 * i + 2) (.grow 8) := rfl
      rw [ht1] at ih
      refine run_rename [0, 1, 2, 3, 4, 5, 6, 10] rfl (by simp) ?_ (uniq_nodup' (by decide)) ?_ ih
      · exact hfit_cons rfl (jb_g (rg _)) (hfit_cons rfl (jb_g (rh _)) (hfit_cons rfl (jb_g (ra _)) (hfit_cons rfl (jb_g (rb _)) (hfit_cons rfl (jb_g (lc_rens ..)) (hfit_cons rfl (jb_g (lc_rens ..)) (hfit_cons rfl (jb_g (lc_rens ..)) (hfit_cons rfl (jb_g (tms_rens ..)) hfit_nil)))))))
      · simp only [go_sem, fit, ren, gmap, true_or, or_true]
  · have h0 : ((m : Int) < (m : Int)) = False := eq_false (by omega)
    have h1 : (((1 + 2 * m : Nat) : Int) < 24) = True := eq_true (by omega)
    rw [show tvi m = .sl 7 0 (1 + 2 * m) (.grow 8) from if_neg (by omega), show tbi c q a b g h m = some ⟨.grow, tms (1 + 2 * m) (tK c a b) (tK q g h)⟩ from by unfold tbi; rw [if_neg (by omega)]]
    refine run_loop_eq v26_8.eq_1 ?_
    refine run_driveS 80 ?_
    simp only [go_sem, v26_3, h0]
    refine run_exit rfl ?_
    refine run_driveS 80 ?_
    simp only [go_sem, v26_10, h1]
    refine run_cond_t (by rfl) ?_
    refine run_driveS 80 ?_
    simp only [go_sem, v26_11]
    refine run_call' rfl ?_
    simp only [go_sem, calV]
    refine vcall_at (plain_ hG (tK c a b) (tK q g h) (1 + 2 * m) (tK_lt hc ha hb) (tK_lt hq hg hh) (by omega) (.grow 8) (Q := fun v k => v = lw (psum (tK c a b) (tK q g h) (1 + 2 * m)) ∧ k = [none]) ⟨rfl, rfl⟩) [7] (by simp) ?_ ?_ ?_ ?_
    · exact hfit_cons rfl (jb_ro (tms_rens ..)) hfit_nil
    · exact uniq_nodup' (by decide)
    · simp only [rens, ren, gmap]
    rintro v k ⟨rfl, rfl⟩
    rw [puts_ro (by simp [wrB]) rfl (by simp)]
    simp only [List.drop_succ_cons, List.drop_zero, List.length_cons, List.length_nil, List.map_nil, List.append_nil, Nat.reduceAdd, lw_plain]
    refine run_driveS 80 ?_
    simp only [go_sem]
    refine run_ret_drop Tryd.func26 res26 [0, 1, 2, 3] (lw (psum (tK c a b) (tK q g h) (1 + 2 * m))) _ rfl (by simp) ?_ (uniq_nodup' (by decide)) ?_ hQ
    · exact hfit_cons_none (hfit_cons_none (hfit_cons_none (hfit_cons_none hfit_nil)))
    · simp only [go_sem, rr26, ren, rens, gmap, lw_plain]
end
section
attribute [local go_sem ↓] lc_len lc_take lc_drop lc_known lc_one lc_rens lc_cells lw_known lw_agg lw_asG scs_known scs_one scs_len lc_take_add lc_drop_add
attribute [local go_sem] lt_nat lt_natl lt_lnat lt_ll bool_tf bool_ft
set_option maxRecDepth 100000
set_option maxHeartbeats 2000000
theorem size_ (N : Nat) (hN : N < 9223372036854775808) {Q : V → Heap → Prop} (hQ : ∀ n : Nat, n = 1 ∨ n = 2 ∨ n = 4 ∨ n = 8 → Q (.int .i64 n) []) : VCall Tryd.prog G 4 [.int .i64 N, .int .i64 8] [] Q := by
  have w2 : IntKind.i64.wrap 2 = 2 := by decide
  have w4 : IntKind.i64.wrap 4 = 4 := by decide
  have w8 : IntKind.i64.wrap 8 = 8 := by decide
  have w16 : IntKind.i64.wrap 16 = 16 := by decide
  refine vcall_body Tryd.func4 nm4 code4 nt4 ?_
  refine run_driveS 80 ?_
  simp only [go_sem, v4, v4_0, v4_1, v4_6]
  by_cases h1 : 2 ≤ N
  · have a1 : ((2 : Int) ≤ (N : Int)) = True := eq_true (by omega)
    refine run_loop_eq v4_5.eq_1 ?_
    refine run_driveS 80 ?_
    simp only [go_sem, v4_2, v4_3, v4_4, a1, w2, w4, w8, w16]
    by_cases h2 : 4 ≤ N
    · have a2 : ((4 : Int) ≤ (N : Int)) = True := eq_true (by omega)
      refine run_loop_eq v4_5.eq_1 ?_
      refine run_driveS 80 ?_
      simp only [go_sem, v4_2, v4_3, v4_4, a2, w2, w4, w8, w16]
      by_cases h3 : 8 ≤ N
      · have a3 : ((8 : Int) ≤ (N : Int)) = True := eq_true (by omega)
        refine run_loop_eq v4_5.eq_1 ?_
        refine run_driveS 80 ?_
        simp only [go_sem, v4_2, v4_3, v4_4, a3, w2, w4, w8, w16]
        by_cases h4 : 16 ≤ N
        · have a4 : ((16 : Int) ≤ (N : Int)) = True := eq_true (by omega)
          refine run_loop_eq v4_5.eq_1 ?_
          refine run_driveS 80 ?_
          simp only [go_sem, v4_2, a4, w2, w4, w8, w16]
          refine run_exit rfl ?_
          refine run_driveS 80 ?_
          simp only [go_sem, v4_7]
          exact run_ret_drop Tryd.func4 res4 [] (.int .i64 (8 : Nat)) [] rfl (by simp) hfit_nil (uniq_nodup' (by decide)) rfl (hQ 8 (by omega))
        · have a4 : ((16 : Int) ≤ (N : Int)) = False := eq_false (by omega)
          refine run_loop_eq v4_5.eq_1 ?_
          refine run_driveS 80 ?_
          simp only [go_sem, v4_2, a4, w2, w4, w8, w16]
          refine run_exit rfl ?_
          refine run_driveS 80 ?_
          simp only [go_sem, v4_7]
          exact run_ret_drop Tryd.func4 res4 [] (.int .i64 (8 : Nat)) [] rfl (by simp) hfit_nil (uniq_nodup' (by decide)) rfl (hQ 8 (by omega))
      · have a3 : ((8 : Int) ≤ (N : Int)) = False := eq_false (by omega)
        refine run_loop_eq v4_5.eq_1 ?_
        refine run_driveS 80 ?_
        simp only [go_sem, v4_2, a3, w2, w4, w8, w16]
        refine run_exit rfl ?_
        refine run_driveS 80 ?_
        simp only [go_sem, v4_7]
        exact run_ret_drop Tryd.func4 res4 [] (.int .i64 (4 : Nat)) [] rfl (by simp) hfit_nil (uniq_nodup' (by decide)) rfl (hQ 4 (by omega))
    · have a2 : ((4 : Int) ≤ (N : Int)) = False := eq_false (by omega)
      refine run_loop_eq v4_5.eq_1 ?_
      refine run_driveS 80 ?_
      simp only [go_sem, v4_2, a2, w2, w4, w8, w16]
      refine run_exit rfl ?_
      refine run_driveS 80 ?_
      simp only [go_sem, v4_7]
      exact run_ret_drop Tryd.func4 res4 [] (.int .i64 (2 : Nat)) [] rfl (by simp) hfit_nil (uniq_nodup' (by decide)) rfl (hQ 2 (by omega))
  · have a1 : ((2 : Int) ≤ (N : Int)) = False := eq_false (by omega)
    refine run_loop_eq v4_5.eq_1 ?_
    refine run_driveS 80 ?_
    simp only [go_sem, v4_2, a1, w2, w4, w8, w16]
    refine run_exit rfl ?_
    refine run_driveS 80 ?_
    simp only [go_sem, v4_7]
    exact run_ret_drop Tryd.func4 res4 [] (.int .i64 (1 : Nat)) [] rfl (by simp) hfit_nil (uniq_nodup' (by decide)) rfl (hQ 1 (by omega))
theorem Image_ (hG : G 0 = tbl) (q : Nat) (hq : q < 115792089237316195423570985008687907853269984665640564039457584007913129639936) (g h a b : Nat → Nat) (m : Nat) (hg : ∀ j, j < m → g j < 115792089237316195423570985008687907853269984665640564039457584007913129639936) (hh : ∀ j, j < m → h j < 115792089237316195423570985008687907853269984665640564039457584007913129639936) (ha : ∀ j, j < m → a j < 115792089237316195423570985008687907853269984665640564039457584007913129639936) (hb : ∀ j, j < m → b j < 115792089237316195423570985008687907853269984665640564039457584007913129639936) (hm : 0 < m) (hm8 : m ≤ 11) (Xg Xh Xa Xb : List V) (og oh oa ob : Nat)
    (eg : ∀ i, i < m → (Xg.drop (og + i * 4)).take 4 = lc (g i)) (eh : ∀ i, i < m → (Xh.drop (oh + i * 4)).take 4 = lc (h i)) (ea : ∀ i, i < m → (Xa.drop (oa + i * 4)).take 4 = lc (a i)) (eb : ∀ i, i < m → (Xb.drop (ob + i * 4)).take 4 = lc (b i))
    (rg : ∀ f, rens f Xg = Xg) (rh : ∀ f, rens f Xh = Xh) (ra : ∀ f, rens f Xa = Xa) (rb : ∀ f, rens f Xb = Xb) (cg ch ca cb : Cap) {Q : V → Heap → Prop}
    (hQ : Q (.tup [lw (psum (tK (inn a b m) a b) (tK q g h) (1 + 2 * m)), .int .i64 0]) [none, none, none, none]) : VCall Tryd.prog G 11 [lw q, .sl 0 og m cg, .sl 1 oh m ch, .sl 2 oa m ca, .sl 3 ob m cb] [some ⟨.ro, Xg⟩, some ⟨.ro, Xh⟩, some ⟨.ro, Xa⟩, some ⟨.ro, Xb⟩] Q := by
  have e1 : ((m : Int) = (m : Int)) = True := eq_self _
  refine vcall_body Tryd.func11 nm11 code11 nt11 ?_
  refine run_driveS 80 ?_
  simp only [go_sem, v11, v11_0, v11_1, e1, jz4]
  refine run_cond_f (by rfl) ?_
  refine run_driveS 80 ?_
  simp only [go_sem, v11_4]
  refine run_call' rfl ?_
  simp only [go_sem, calV]
  refine vcall_at (inner_ hG a b m ha hb (by omega) Xa Xb oa ob ea eb ra rb ca cb (Q := fun v k => v = .tup [lw (inn a b m), .int .i64 0] ∧ k = [none, none]) ⟨rfl, rfl⟩) [2, 3] (by simp) ?_ ?_ ?_ ?_
  · exact hfit_cons rfl (jb_ro (ra _)) (hfit_cons rfl (jb_ro (rb _)) hfit_nil)
  · exact uniq_nodup' (by decide)
  · simp only [rens, ren, gmap]
  rintro v k ⟨rfl, rfl⟩
  rw [puts_ro (by simp [wrB]) rfl (by simp)]
  simp only [List.drop_succ_cons, List.drop_zero, List.length_cons, List.length_nil, List.map_nil, List.append_nil, Nat.reduceAdd, lw_plain, ren, rens]
  refine run_driveS 80 ?_
  simp only [go_sem, v11_5, jz4]
  refine run_call' rfl ?_
  simp only [go_sem, calV]
  refine vcall_at (image_ hG q (inn a b m) hq (inn_lt ..) g h a b m hg hh ha hb hm hm8 Xg Xh Xa Xb og oh oa ob eg eh ea eb rg rh ra rb cg ch ca cb (Q := fun v k => v = lw (psum (tK (inn a b m) a b) (tK q g h) (1 + 2 * m)) ∧ k = [none, none, none, none]) ⟨rfl, rfl⟩) [0, 1, 2, 3] (by simp) ?_ ?_ ?_ ?_
  · exact hfit_cons rfl (jb_ro (rg _)) (hfit_cons rfl (jb_ro (rh _)) (hfit_cons rfl (jb_ro (ra _)) (hfit_cons rfl (jb_ro (rb _)) hfit_nil)))
  · exact uniq_nodup' (by decide)
  · simp only [rens, ren, gmap, lw_plain]
  rintro v k ⟨rfl, rfl⟩
  rw [puts_ro (by simp [wrB]) rfl (by simp)]
  simp only [List.drop_succ_cons, List.drop_zero, List.length_cons, List.length_nil, List.map_nil, List.append_nil, Nat.reduceAdd, lw_plain]
  refine run_driveS 80 ?_
  simp only [go_sem]
  trace_state
  refine run_ret_drop Tryd.func11 res11 [0, 1, 2, 3] (.tup [lw (psum (tK (inn a b m) a b) (tK q g h) (1 + 2 * m)), .int .i64 0]) _ rfl (by simp) ?_ (uniq_nodup' (by decide)) ?_ hQ
  · exact hfit_cons_none (hfit_cons_none (hfit_cons_none (hfit_cons_none hfit_nil)))
  · simp only [go_sem, rr11, ren, rens, gmap, lw_plain]
end
section
attribute [local go_sem ↓] lc_len lc_take lc_drop lc_known lc_one lc_rens lc_cells lw_known lw_agg lw_asG scs_known scs_one scs_len lc_take_add lc_drop_add
attribute [local go_sem] lt_nat lt_natl lt_lnat lt_ll bool_tf bool_ft
set_option maxRecDepth 100000
set_option maxHeartbeats 2000000
def sb (a b : Nat) : Nat := (a + (ell - b % ell)) % ell
theorem sb_lt (a b : Nat) : sb a b < 115792089237316195423570985008687907853269984665640564039457584007913129639936 := mod_lt _
def fgo (u v : Nat) (g : Nat → Nat) (m i : Nat) : Nat := (u * g i % ell + v * g (m + i) % ell) % ell
theorem fgo_lt (u v : Nat) (g : Nat → Nat) (m i : Nat) : fgo u v g m i < 115792089237316195423570985008687907853269984665640564039457584007913129639936 := mod_lt _
noncomputable def fc0 (l r p u : Nat) : Nat := (((l * u % ell) * u % ell + p) % ell + (r * linv u % ell) * linv u % ell) % ell
def fac (c q : Nat) (fg fh lo hi : Nat → Nat) : Nat → Nat
  | 0 => c
  | i + 1 => if i = 0 then sb (fac c q fg fh lo hi i) (hi i * fh i % ell) else sb (sb (sb (fac c q fg fh lo hi i) (hi i * fh i % ell)) (lo i * fg i % ell)) ((lo i * hi i % ell) * q % ell)
theorem fac_lt {c : Nat} (hc : c < 115792089237316195423570985008687907853269984665640564039457584007913129639936) (q : Nat) (fg fh lo hi : Nat → Nat) (i : Nat) : fac c q fg fh lo hi i < 115792089237316195423570985008687907853269984665640564039457584007913129639936 := by
  cases i with
  | zero => exact hc
  | succ i => unfold fac; split <;> exact sb_lt ..
def fkk (q : Nat) (fg hi : Nat → Nat) : Nat := (fg 0 + hi 0 * q % ell) % ell
def fa0 (x : Nat) (lo : Nat → Nat) (i : Nat) : Nat := if i = 0 then x else lo i
def crs4 (p q n : Nat) (cg ch : Cap) : V := .agg (lc p ++ lc q ++ [.sl 0 0 n cg, .sl 1 0 n ch])
theorem scs_cat (m : Nat) (f : Nat → Nat) : ∀ k, scs (m + k) f = scs m f ++ scs k fun i => f (m + i)
  | 0 => (List.append_nil _).symm
  | k + 1 => by
    show scs (m + k) f ++ lc (f (m + k)) = scs m f ++ (scs k (fun i => f (m + i)) ++ lc (f (m + k)))
    rw [scs_cat m f k, List.append_assoc]
theorem scs_tl (m k : Nat) (f : Nat → Nat) : ((scs (1 + (m + k)) f).drop 4).take (m * 4) = scs m fun i => f (1 + i) := by
  rw [scs_cat, scs_cat, show scs 1 f = lc (f 0) from rfl]
  rw [List.drop_left' (lc_len _), List.take_left' (scs_len ..)]
theorem tile : ∀ (k : Nat) (Y : List V) (f : Nat → Nat), (∀ i, i < k → (Y.drop (i * 4)).take 4 = lc (f i)) → Y.take (k * 4) = scs k f
  | 0, Y, f, _ => by rw [Nat.zero_mul, List.take_zero]; rfl
  | k + 1, Y, f, h => by
    rw [Nat.add_mul, Nat.one_mul, List.take_add, tile k Y f fun i hi => h i (by omega), h k (by omega)]
    rfl
theorem tile_at {k o : Nat} {X : List V} {f : Nat → Nat} (h : ∀ i, i < k → (X.drop (o + i * 4)).take 4 = lc (f i)) : (X.drop o).take (k * 4) = scs k f :=
  tile k _ f fun i hi => by rw [List.drop_drop]; exact h i hi
theorem tile_le {k o : Nat} {X : List V} {f : Nat → Nat} (hk : 0 < k) (h : ∀ i, i < k → (X.drop (o + i * 4)).take 4 = lc (f i)) : o + k * 4 ≤ X.length := by
  have := congrArg List.length (tile_at h)
  rw [List.length_take, List.length_drop, scs_len] at this
  omega
theorem fa0_cat (x : Nat) (lo : Nat → Nat) {m : Nat} (hm : 0 < m) : lc x ++ scs (m - 1) (fun i => lo (1 + i)) = scs m (fa0 x lo) := by
  conv => rhs; rw [show m = 1 + (m - 1) by omega, scs_cat]
  rw [show scs 1 (fa0 x lo) = lc x from rfl]
  congr 1
  exact scs_congr fun j _ => by unfold fa0; rw [if_neg (by omega)]
theorem bq5 (u : Nat) (a b : V) : List.take 5 (lc u ++ [a] ++ [b]) = lc u ++ [a] := rfl
theorem bq7 (u : Nat) (a b : V) : List.take 6 (lc u ++ [a] ++ [b]) = lc u ++ [a] ++ [b] := rfl
theorem bq6 (u : Nat) (a b : V) : List.drop 6 (lc u ++ [a] ++ [b]) = [] := rfl
end
section
attribute [local go_sem ↓] lc_len lc_take lc_drop lc_known lc_one lc_rens lc_cells lw_known lw_agg lw_asG scs_known scs_one scs_len lc_take_add lc_drop_add
attribute [local go_sem] lt_nat lt_natl lt_lnat lt_ll bool_tf bool_ft
set_option maxRecDepth 100000
set_option maxHeartbeats 2000000
noncomputable def sqf (u : Nat) (j : Nat) : Nat := if j = 0 then u * u % ell else if j = 1 then 1 else linv (u * u % ell)
theorem bq8 (a b : Nat) (r : List V) : List.take 8 (lc a ++ lc b ++ r) = lc a ++ lc b := rfl
theorem bd8 (a : Nat) (x0 x1 x2 x3 x4 x5 x6 x7 : V) : List.drop 8 (lc a ++ [x0, x1, x2, x3, x4, x5, x6, x7]) = [x4, x5, x6, x7] := rfl
theorem bd12 (a b : Nat) (x0 x1 x2 x3 : V) : List.drop 12 (lc a ++ lc b ++ [x0, x1, x2, x3]) = [] := rfl
theorem sq_cells (u : Nat) : lc (u * u % ell) ++ lc 1 ++ lc (linv (u * u % ell)) = scs 3 (sqf u) := rfl
theorem square_ (hG : G 0 = tbl) (u : Nat) (hu : u < 115792089237316195423570985008687907853269984665640564039457584007913129639936) (m : Nat) (ca cb : Cap) (b0 b1 : Option Blk) {Q : V → Heap → Prop}
    (hQ : Q (.sl 2 0 3 (.exact 3)) [none, none, some ⟨.rw, scs 3 (sqf u)⟩]) :
    VCall Tryd.prog G 22 [.agg (lc u ++ [.sl 0 0 m ca, .sl 1 0 m cb])] [b0, b1] Q := by
  have e := sq_cells u
  refine vcall_body Tryd.func22 nm22 code22 nt22 ?_
  refine run_driveS 80 ?_
  simp only [go_sem, v22, v22_0, v22_1]
  refine run_call' rfl ?_
  simp only [go_sem, calV]
  refine mul' hG _ _ hu hu ?_
  refine run_driveS 80 ?_
  simp only [go_sem]
  refine run_drw (by kernel_rfl) ?_
  refine drun_drive 40 (p := (_, _)) ?_
  simp only [go_sem, v22_2, restore, Option.join_some, maskH, List.mapIdx_cons, List.mapIdx_nil, List.contains_cons, List.contains_nil, Bool.or_false, Bool.or_true, Bool.false_or, Bool.true_or, Nat.reduceBEq]
  refine drun_call' ?_
  simp only [go_sem, calV, restore, Option.join_some, maskH, List.mapIdx_cons, List.mapIdx_nil, List.contains_cons, List.contains_nil, Bool.or_false, Bool.or_true, Bool.false_or, Bool.true_or, Nat.reduceBEq]
  refine int' 1 (by decide) ?_
  refine drun_drive 40 (p := (_, _)) ?_
  simp only [go_sem, restore, Option.join_some, maskH, List.mapIdx_cons, List.mapIdx_nil, List.contains_cons, List.contains_nil, Bool.or_false, Bool.or_true, Bool.false_or, Bool.true_or, Nat.reduceBEq]
  refine drun_call' ?_
  simp only [go_sem, calV, restore, Option.join_some, maskH, List.mapIdx_cons, List.mapIdx_nil, List.contains_cons, List.contains_nil, Bool.or_false, Bool.or_true, Bool.false_or, Bool.true_or, Nat.reduceBEq]
  refine invert' hG _ (mod_lt _) ?_
  refine drun_drive 40 (p := (_, _)) ?_
  simp only [go_sem, bq8, bd8, bd12, e, restore, Option.join_some, maskH, List.mapIdx_cons, List.mapIdx_nil, List.contains_cons, List.contains_nil, Bool.or_false, Bool.or_true, Bool.false_or, Bool.true_or, Nat.reduceBEq]
  refine drun_end ?_
  refine run_driveS 80 ?_
  simp only [go_sem]
  exact run_ret_drop Tryd.func22 res22 [0, 1, 4] (.sl 2 0 3 (.exact 3)) _ rfl (by simp) (hfit_cons_none (hfit_cons_none (hfit_cons rfl (jb_g (scs_rens ..)) hfit_nil))) (uniq_nodup' (by decide)) (by simp only [go_sem, rr22, ren, gmap]) hQ
end
end Go.Vs.Tryd
