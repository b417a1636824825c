/- R6: what the functions of the program answer, over the machine of plain values. -/
import Derived.Test.YtaalannjlomiiaaDoorR5
set_option linter.unusedVariables false
set_option linter.unusedSimpArgs false
namespace Go.Vs.Tryd
open Go.Proofs
variable {G : Nat → List V}
set_option linter.unusedSimpArgs false
attribute [local go_sem] List.length_append List.all_append ge_iff_le gt_iff_lt Int.natCast_nonneg Int.toNat_natCast Nat.mul_one b_and_ll b_shr_ll b_mul_ll b_add_ll b_or_ll b_shl_ll pick_ll pick_lc pick_bb driveS stopV drive stepV exo expo evs fillV isNil nilKind eqV eqL optA optM sliceAtV ev kn ldc stc splice appV srcV lenV setd wantV exitV rvs rv one List.length_cons List.length_nil List.cons_append List.nil_append List.append_nil List.replicate List.getD_cons_zero List.getD_cons_succ List.set_cons_zero List.set_cons_succ List.getElem?_cons_zero List.getElem?_cons_succ List.getElem?_nil List.take_succ_cons List.take_zero List.take_nil List.drop_succ_cons List.drop_zero List.drop_nil List.all_cons List.all_nil List.any_cons List.any_nil Bool.and_true Bool.true_and Bool.and_self Option.map_some Option.map_none Option.bind_some Option.some.injEq Nat.add_zero Nat.zero_add Int.toNat_zero Int.toNat_one Int.zero_add Int.add_zero if_true if_false ite_true ite_false and_true true_and and_self ne_eq not_false_eq_true not_true_eq_false decide_true decide_false Bool.false_eq_true Bool.not_true Bool.not_false beq_self_eq_true BEq.rfl Bool.not_eq_true Nat.le_refl Int.le_refl Nat.zero_le List.foldl List.map_cons List.map_nil Prod.mk.injEq Int.cast_ofNat_Int Int.zero_le_ofNat b_add_cc b_add_cl b_add_lc b_mul_cc b_mul_cl b_mul_lc b_sub_cc b_sub_cl b_sub_lc b_and_cc b_and_cl b_and_lc b_or_cc b_or_cl b_or_lc b_xor_cc b_xor_cl b_xor_lc b_andNot_cc b_andNot_cl b_andNot_lc b_shr_cc b_shr_cl b_shr_lc b_shl_cc b_shl_cl b_shl_lc b_lss b_leq b_gtr b_geq b_add_i b_sub_i b_mul_i beq_cc beq_cl beq_lc beq_ll b_quo_i b_rem_i neg_u64 wrap_i64 driveD stepD idsAt idOf maskH_nil restore_nil restore_mask List.filterMap_nil List.filterMap_cons VOp.looks VOp.makes exA cells_agg cells_int cells_bool cells_str cells_nilp cells_ptr cells_glob cells_nils cells_sl cells_nilf cells_fn cells_nili cells_ifc known_agg known_tup known_int known_bool known_str known_nilp known_ptr known_glob known_nils known_sl known_nilf known_fn known_nili known_ifc known_unk one_agg one_tup one_int one_bool one_str one_nilp one_ptr one_glob one_nils one_sl one_nilf one_fn one_nili one_ifc asK_int asN_int asB_bool asS_str asG_agg asT_tup
attribute [local go_sem ↓] lc_len lc_take lc_drop lc_known lc_one lc_rens lc_cells lw_known lw_agg lw_asG
attribute [local go_sem] lt_nat lt_natl lt_lnat lt_ll
set_option maxRecDepth 100000
set_option maxHeartbeats 1000000

theorem wrow_len (n : Nat) (ws : Nat → Nat) : (wrow n ws).length = n := by
  have := row_len (s := 1) (e := fun j => [V.int .u64 (ws j : Int)]) (fun _ => rfl) n
  rwa [Nat.mul_one] at this
theorem wrow_known (n : Nat) (ws : Nat → Nat) : (wrow n ws).all V.known = true := row_all (fun _ => rfl) n
theorem wrow_one (n : Nat) (ws : Nat → Nat) : (wrow n ws).all V.one = true := row_all (fun _ => rfl) n
theorem wrow_take (n : Nat) (ws : Nat → Nat) : (wrow n ws).take n = wrow n ws := List.take_of_length_le (by rw [wrow_len]; exact Nat.le_refl n)
theorem wrow_set (n : Nat) (ws : Nat → Nat) {i v : Nat} (h : i < n) : (wrow n ws).take i ++ [.int .u64 (v : Int)] ++ (wrow n ws).drop (i + 1) = wrow n (upd ws i v) := by
  have := row_set (s := 1) (e := fun j => [V.int .u64 (ws j : Int)]) (fun _ => rfl) (cs := [V.int .u64 (v : Int)]) rfl h
  unfold splice at this
  rw [Nat.mul_one] at this
  refine this.trans (row_congr fun j hj => ?_)
  unfold upd
  split <;> rfl
attribute [local go_sem ↓] wrow_len wrow_known wrow_one wrow_take wrow_fit wrow_rens

def dg (A j : Nat) : Nat := A / 4294967296 ^ j % 4294967296
theorem dg_lt (A j : Nat) : dg A j < 4294967296 := Nat.mod_lt _ (by decide)

theorem ref_halves (A : Nat) (hA : A < 115792089237316195423570985008687907853269984665640564039457584007913129639936) {h : Heap} {R : V → Heap → Prop} (hQ : R (.agg (wrow 8 (dg A))) h) : VCall Tryd.prog G 28 [lw A] h R := by
  refine vcall_plain (Q := fun v => v = .agg (wrow 8 (dg A))) ?_ (fun g => by simp only [rens, ren, lw_plain]) (fun v g hv => by subst hv; simp only [ren, wrow_rens]) (fun v hv => by subst hv; exact hQ)
  obtain ⟨a0, a1, a2, a3, ha0, ha1, ha2, ha3, ea, eA⟩ := limbs A
  have eA := eA hA
  rw [ea]
  refine vcall_body Tryd.func28 nm28 code28 nt28 ?_
  refine run_driveS 80 ?_
  simp only [go_sem, Nat.reduceAdd, Nat.reduceSub, Nat.reduceLeDiff, Nat.reduceMul, Nat.reduceLT, Nat.reduceEqDiff, Int.reduceLT, Int.reduceLE, Int.reduceAdd, Int.reduceSub, Int.reduceMul, Int.reduceToNat, reduceIte, reduceCtorEq, Nat.reduceBEq, v28, v28_0, v28_1, v28_2, v28_9]
  have p0 : a64 a0 4294967295 = dg A 0 := by
    rw [and32 _ ha0]
    unfold dg
    rw [eA]
    simp only [Nat.reducePow]
    omega
  have q0 : r64 a0 32 = dg A 1 := by
    show a0 / 4294967296 = _
    unfold dg
    rw [eA]
    simp only [Nat.reducePow]
    omega
  refine run_loop_eq v28_8.eq_1 ?_
  refine run_driveS 80 ?_
  simp only [go_sem, Nat.reduceAdd, Nat.reduceSub, Nat.reduceLeDiff, Nat.reduceMul, Nat.reduceLT, Nat.reduceEqDiff, Int.reduceLT, Int.reduceLE, Int.reduceAdd, Int.reduceSub, Int.reduceMul, Int.reduceToNat, reduceIte, reduceCtorEq, Nat.reduceBEq, v28_3, v28_6, v28_4, v28_5, p0, q0]
  refine run_driveS 80 ?_
  simp only [go_sem, Nat.reduceAdd, Nat.reduceSub, Nat.reduceLeDiff, Nat.reduceMul, Nat.reduceLT, Nat.reduceEqDiff, Int.reduceLT, Int.reduceLE, Int.reduceAdd, Int.reduceSub, Int.reduceMul, Int.reduceToNat, reduceIte, reduceCtorEq, Nat.reduceBEq, v28_7]
  have p1 : a64 a1 4294967295 = dg A 2 := by
    rw [and32 _ ha1]
    unfold dg
    rw [eA]
    simp only [Nat.reducePow]
    omega
  have q1 : r64 a1 32 = dg A 3 := by
    show a1 / 4294967296 = _
    unfold dg
    rw [eA]
    simp only [Nat.reducePow]
    omega
  refine run_loop_eq v28_8.eq_1 ?_
  refine run_driveS 80 ?_
  simp only [go_sem, Nat.reduceAdd, Nat.reduceSub, Nat.reduceLeDiff, Nat.reduceMul, Nat.reduceLT, Nat.reduceEqDiff, Int.reduceLT, Int.reduceLE, Int.reduceAdd, Int.reduceSub, Int.reduceMul, Int.reduceToNat, reduceIte, reduceCtorEq, Nat.reduceBEq, v28_3, v28_6, v28_4, v28_5, p1, q1]
  refine run_driveS 80 ?_
  simp only [go_sem, Nat.reduceAdd, Nat.reduceSub, Nat.reduceLeDiff, Nat.reduceMul, Nat.reduceLT, Nat.reduceEqDiff, Int.reduceLT, Int.reduceLE, Int.reduceAdd, Int.reduceSub, Int.reduceMul, Int.reduceToNat, reduceIte, reduceCtorEq, Nat.reduceBEq, v28_7]
  have p2 : a64 a2 4294967295 = dg A 4 := by
    rw [and32 _ ha2]
    unfold dg
    rw [eA]
    simp only [Nat.reducePow]
    omega
  have q2 : r64 a2 32 = dg A 5 := by
    show a2 / 4294967296 = _
    unfold dg
    rw [eA]
    simp only [Nat.reducePow]
    omega
  refine run_loop_eq v28_8.eq_1 ?_
  refine run_driveS 80 ?_
  simp only [go_sem, Nat.reduceAdd, Nat.reduceSub, Nat.reduceLeDiff, Nat.reduceMul, Nat.reduceLT, Nat.reduceEqDiff, Int.reduceLT, Int.reduceLE, Int.reduceAdd, Int.reduceSub, Int.reduceMul, Int.reduceToNat, reduceIte, reduceCtorEq, Nat.reduceBEq, v28_3, v28_6, v28_4, v28_5, p2, q2]
  refine run_driveS 80 ?_
  simp only [go_sem, Nat.reduceAdd, Nat.reduceSub, Nat.reduceLeDiff, Nat.reduceMul, Nat.reduceLT, Nat.reduceEqDiff, Int.reduceLT, Int.reduceLE, Int.reduceAdd, Int.reduceSub, Int.reduceMul, Int.reduceToNat, reduceIte, reduceCtorEq, Nat.reduceBEq, v28_7]
  have p3 : a64 a3 4294967295 = dg A 6 := by
    rw [and32 _ ha3]
    unfold dg
    rw [eA]
    simp only [Nat.reducePow]
    omega
  have q3 : r64 a3 32 = dg A 7 := by
    show a3 / 4294967296 = _
    unfold dg
    rw [eA]
    simp only [Nat.reducePow]
    omega
  refine run_loop_eq v28_8.eq_1 ?_
  refine run_driveS 80 ?_
  simp only [go_sem, Nat.reduceAdd, Nat.reduceSub, Nat.reduceLeDiff, Nat.reduceMul, Nat.reduceLT, Nat.reduceEqDiff, Int.reduceLT, Int.reduceLE, Int.reduceAdd, Int.reduceSub, Int.reduceMul, Int.reduceToNat, reduceIte, reduceCtorEq, Nat.reduceBEq, v28_3, v28_6, v28_4, v28_5, p3, q3]
  refine run_driveS 80 ?_
  simp only [go_sem, Nat.reduceAdd, Nat.reduceSub, Nat.reduceLeDiff, Nat.reduceMul, Nat.reduceLT, Nat.reduceEqDiff, Int.reduceLT, Int.reduceLE, Int.reduceAdd, Int.reduceSub, Int.reduceMul, Int.reduceToNat, reduceIte, reduceCtorEq, Nat.reduceBEq, v28_7]
  refine run_loop_eq v28_8.eq_1 ?_
  refine run_driveS 80 ?_
  simp only [go_sem, Nat.reduceAdd, Nat.reduceSub, Nat.reduceLeDiff, Nat.reduceMul, Nat.reduceLT, Nat.reduceEqDiff, Int.reduceLT, Int.reduceLE, Int.reduceAdd, Int.reduceSub, Int.reduceMul, Int.reduceToNat, reduceIte, reduceCtorEq, Nat.reduceBEq, v28_3]
  refine run_exit rfl ?_
  refine run_driveS 80 ?_
  simp only [go_sem, Nat.reduceAdd, Nat.reduceSub, Nat.reduceLeDiff, Nat.reduceMul, Nat.reduceLT, Nat.reduceEqDiff, Int.reduceLT, Int.reduceLE, Int.reduceAdd, Int.reduceSub, Int.reduceMul, Int.reduceToNat, reduceIte, reduceCtorEq, Nat.reduceBEq, v28_10]
  refine run_ret_drop Tryd.func28 res28 [] (.agg (wrow 8 (dg A))) [] rfl (by simp) trivial (by simp [uniq]) ?_ ⟨rfl, rfl⟩
  simp only [go_sem, Nat.reduceAdd, Nat.reduceSub, Nat.reduceLeDiff, Nat.reduceMul, Nat.reduceLT, Nat.reduceEqDiff, Int.reduceLT, Int.reduceLE, Int.reduceAdd, Int.reduceSub, Int.reduceMul, Int.reduceToNat, reduceIte, reduceCtorEq, Nat.reduceBEq, r28, ren, wrow_rens]
  rfl
end Go.Vs.Tryd
