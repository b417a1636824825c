/- L6: what the functions of the program answer, over the machine of plain values. -/
import Derived.Test.YtaalannjlomiiaaDoorL5
import Derived.Test.YtaalannjlomiiaaDoorCards
import Derived.Test.YtaalannjlomiiaaDoorTie
import Derived.WalkKit
import Derived.ProofKit
import Derived.Carry
import Derived.Lay
import Derived.SevenTiedAt
import Derived.Deep.Slices
import Derived.OpenShut
set_option linter.unusedVariables false
set_option linter.unusedSimpArgs false
/- The law IpaWeights: the input's reading, the machine's answer, the row and its card. -/
namespace Go.Vs.Tryd
open Go.Proofs Go.ChangeShapes Go.WideShapes Go.ChangeAt Go.RowKit

def GT : Nat → List V := fun g => if g = 0 then tbl else []

theorem under37 : Tryd.prog.underlying 37 = some (.array 4 36) := by kernel_rfl

/-- The limbs that stand in the memory, as a number. -/
def num (z : Nat → Nat) : Nat := z 0 + 18446744073709551616 * z 1 + 340282366920938463463374607431768211456 * z 2 + 6277101735386680763835789423207666416102355444464034512896 * z 3

theorem lc_num {z : Nat → Nat} (h : ∀ k, z k < 18446744073709551616) : lc (num z) = [.int .u64 (z 0 : Int), .int .u64 (z 1 : Int), .int .u64 (z 2 : Int), .int .u64 (z 3 : Int)] := (lc_of (h 0) (h 1) (h 2) (h 3)).symm

theorem sim_cells {W : World} {a : Addr} (hs : a.spot = none) (z : Nat → Nat → Nat) (hz : ∀ i k, z i k < 18446744073709551616) : ∀ (n : Nat), (∀ i, i < n → ∀ k, k < 4 → W.cell? (a.add (i * 4 + k)) = some (.int .u64 (z i k : Int))) →
    ∀ (j : Nat) (v : V), (scs n fun i => num (z i))[j]? = some v → ∃ x : Int, v = .int .u64 x ∧ W.cell? ⟨a.block, a.off + j, none⟩ = some (.int .u64 x)
  | 0, _, j, v, hj => by simp [scs, row] at hj
  | n + 1, h, j, v, hj => by
    have hlen := scs_len n fun i => num (z i)
    have e : (scs (n + 1) fun i => num (z i)) = (scs n fun i => num (z i)) ++ lc (num (z n)) := rfl
    rw [e] at hj
    rcases Nat.lt_or_ge j (n * 4) with hlt | hge
    · rw [List.getElem?_append_left (by rw [hlen]; exact hlt)] at hj
      exact sim_cells hs z hz n (fun i hi => h i (by omega)) j v hj
    · rw [List.getElem?_append_right (by rw [hlen]; exact hge), hlen, lc_num (hz n)] at hj
      have key : ∀ k, k < 4 → j - n * 4 = k → W.cell? ⟨a.block, a.off + j, none⟩ = some (.int .u64 (z n k : Int)) := by
        intro k hk e
        have := h n (Nat.lt_succ_self n) k hk
        rw [show n * 4 + k = j by omega] at this
        obtain ⟨b, o, sp⟩ := a
        simp only at hs
        subst hs
        rw [Addr.add_lit] at this
        exact this
      have : j - n * 4 < 4 := by
        have := (List.getElem?_eq_some_iff.1 hj).1
        simpa using this
      have : j - n * 4 = 0 ∨ j - n * 4 = 1 ∨ j - n * 4 = 2 ∨ j - n * 4 = 3 := by omega
      rcases this with e | e | e | e <;> rw [e] at hj <;> simp at hj <;> subst hj
      · exact ⟨_, rfl, key 0 (by omega) e⟩
      · exact ⟨_, rfl, key 1 (by omega) e⟩
      · exact ⟨_, rfl, key 2 (by omega) e⟩
      · exact ⟨_, rfl, key 3 (by omega) e⟩

theorem globs_of {W : World} (h : W.var? Tryd.prog "veil/scalar.table" = some #[.int .u64 6346243789798364141, .int .u64 1503914060200516822, .int .u64 0, .int .u64 1152921504606846976, .int .u64 15486807595281847581, .int .u64 14334777244411350896, .int .u64 18446744073709551614, .int .u64 1152921504606846975, .int .u64 11819153939886771969, .int .u64 14991950615390032711, .int .u64 14910419812499177061, .int .u64 259310039853996605, .int .u64 6346243789798364139, .int .u64 1503914060200516822, .int .u64 0, .int .u64 1152921504606846976]) :
    (∀ g o v, (GT g)[o]? = some v → v ≠ .unk → ∃ r, conc [] v = some r ∧ W.cell? ⟨g, o, none⟩ = some r) ∧ ∀ g, W.heap.size ≤ g → GT g = [] := by
  have hg : Tryd.prog.globalNamed "veil/scalar.table" = some 0 := by kernel_rfl
  unfold World.var? at h
  rw [hg] at h
  simp only [Option.bind_some] at h
  split at h <;> try (cases h; done)
  rename_i cs e fr hh
  simp only [Option.some.injEq] at h
  subst h
  refine ⟨fun g o v hv _ => ?_, fun g hle => ?_⟩
  · unfold GT at hv
    split at hv
    · rename_i e0
      subst e0
      have ho : o < 16 := by
        have := (List.getElem?_eq_some_iff.1 hv).1
        simpa [tbl] using this
      have hc : ∀ r : Value, (#[.int .u64 6346243789798364141, .int .u64 1503914060200516822, .int .u64 0, .int .u64 1152921504606846976, .int .u64 15486807595281847581, .int .u64 14334777244411350896, .int .u64 18446744073709551614, .int .u64 1152921504606846975, .int .u64 11819153939886771969, .int .u64 14991950615390032711, .int .u64 14910419812499177061, .int .u64 259310039853996605, .int .u64 6346243789798364139, .int .u64 1503914060200516822, .int .u64 0, .int .u64 1152921504606846976] : Array Value)[o]? = some r → W.cell? ⟨0, o, none⟩ = some r := by
        intro r hr
        unfold World.cell?
        simp only [hh]
        simpa using hr
      have : o = 0 ∨ o = 1 ∨ o = 2 ∨ o = 3 ∨ o = 4 ∨ o = 5 ∨ o = 6 ∨ o = 7 ∨ o = 8 ∨ o = 9 ∨ o = 10 ∨ o = 11 ∨ o = 12 ∨ o = 13 ∨ o = 14 ∨ o = 15 := by omega
      rcases this with rfl | rfl | rfl | rfl | rfl | rfl | rfl | rfl | rfl | rfl | rfl | rfl | rfl | rfl | rfl | rfl <;> (have hv' := Option.some.inj hv; subst hv'; exact ⟨_, rfl, hc _ rfl⟩)
    · simp at hv
  · unfold GT
    rw [if_neg]
    rintro rfl
    have : W.heap[0]? = none := Array.getElem?_eq_none hle
    rw [this] at hh
    cases hh

theorem sim_one {W : World} {b0 : Option Blk} {p : Option Pl} (hG : (∀ g o v, (GT g)[o]? = some v → v ≠ .unk → ∃ r, conc [] v = some r ∧ W.cell? ⟨g, o, none⟩ = some r) ∧ ∀ g, W.heap.size ≤ g → GT g = [])
    (hb : b0 = none ∨ ∃ cs q, b0 = some ⟨.ro, cs⟩ ∧ p = some q ∧ q.block < W.heap.size ∧ cs.length ≤ q.size ∧ ∀ (j : Nat) v, cs[j]? = some v → v ≠ .unk → ∃ r, conc [] v = some r ∧ W.cell? ⟨q.block, q.base + j, none⟩ = some r) : Sim GT [p] [b0] W := by
  have live : ∀ i b, Live [b0] i b → i = 0 ∧ b0 = some b := by
    intro i b hl
    unfold Live at hl
    cases i with
    | zero => simp at hl; exact ⟨rfl, hl⟩
    | succ i => simp at hl
  have pl0 : ∀ q, place [p] 0 = some q → p = some q := by
    intro q hq
    unfold place at hq
    simpa using hq
  rcases hb with rfl | ⟨cs, q, rfl, rfl, h1, h2, h3⟩
  · refine ⟨rfl, fun i b h => ?_, fun i b _ h => ?_, fun i b _ h => ?_, fun i b _ h => ?_, fun i j bi bj _ _ _ h => ?_, hG.1, hG.2⟩
    all_goals exact absurd (live _ _ h).2 (by simp)
  · refine ⟨rfl, fun i b h => ?_, fun i b r h hp j v hj hu => ?_, fun i b r h hp => ?_, fun i b r h hp hk => ?_, fun i j bi bj _ _ hij hi hj => ?_, hG.1, hG.2⟩
    · obtain ⟨rfl, e⟩ := live _ _ h
      exact ⟨q, rfl⟩
    · obtain ⟨rfl, e⟩ := live _ _ h
      obtain rfl := Option.some.inj (pl0 _ hp)
      obtain rfl := Option.some.inj e
      obtain ⟨x, e1, e2⟩ := h3 j v hj hu
      exact ⟨x, conc_ext (fun i p hp => by simp [place] at hp) _ _ e1, e2⟩
    · obtain ⟨rfl, e⟩ := live _ _ h
      obtain rfl := Option.some.inj (pl0 _ hp)
      obtain rfl := Option.some.inj e
      exact ⟨h1, h2⟩
    · obtain ⟨rfl, e⟩ := live _ _ h
      obtain rfl := Option.some.inj e
      exact absurd rfl hk
    · exact absurd ((live _ _ hi).1.trans (live _ _ hj).1.symm) hij

theorem under36 : Tryd.prog.underlying 36 = some (.int .u64) := by kernel_rfl
theorem size36 : Tryd.prog.cellsOf 36 = 1 := by kernel_rfl
theorem size37 : Tryd.prog.cellsOf 37 = 4 := by kernel_rfl

/-- One element of the input: four words. -/
theorem elem_of {H : Type} {enc : TypeId × Value → H} {W : World} {n : Nat} {cs : List Value} {x : DataW H × List MemPlace} (h : DataW.trod enc Tryd.prog W 0 (fun _ => true) true n 37 cs = some x) :
    ∃ z : Nat → Nat, (∀ k, z k < 18446744073709551616) ∧ ∀ k, k < 4 → cs[k]? = some (.int .u64 (z k : Int)) := by
  obtain ⟨xs, m, _, _, hl, hxl, hel⟩ := DataW.trod_array under37 h
  rw [size37] at hl
  have key : ∀ k, k < 4 → ∃ z : Nat, z < 18446744073709551616 ∧ cs[k]? = some (.int .u64 (z : Int)) := by
    intro k hk
    have hk' := hel k hk
    rw [size36, Nat.mul_one] at hk'
    obtain ⟨y, hy⟩ : ∃ y, xs[k]? = some y := ⟨xs[k], List.getElem?_eq_getElem (by omega)⟩
    rw [hy] at hk'
    obtain ⟨z, e1, _, hwf⟩ := DataW.trod_int under36 hk'
    have hb := bounds_u64 hwf
    refine ⟨z.toNat, by omega, ?_⟩
    have e2 : ((cs.drop k).take 1)[0]? = some (.int .u64 z) := by rw [e1]; rfl
    rw [List.getElem?_take_of_lt (by decide), List.getElem?_drop, Nat.add_zero] at e2
    rw [e2, show ((z.toNat : Nat) : Int) = z by omega]
  obtain ⟨z0, a0, b0⟩ := key 0 (by omega)
  obtain ⟨z1, a1, b1⟩ := key 1 (by omega)
  obtain ⟨z2, a2, b2⟩ := key 2 (by omega)
  obtain ⟨z3, a3, b3⟩ := key 3 (by omega)
  refine ⟨fun k => if k = 0 then z0 else if k = 1 then z1 else if k = 2 then z2 else if k = 3 then z3 else 0, fun k => ?_, fun k hk => ?_⟩
  · show (if k = 0 then z0 else if k = 1 then z1 else if k = 2 then z2 else if k = 3 then z3 else 0) < _
    (repeat' split) <;> omega
  · have : k = 0 ∨ k = 1 ∨ k = 2 ∨ k = 3 := by omega
    rcases this with rfl | rfl | rfl | rfl
    · exact b0
    · exact b1
    · exact b2
    · exact b3

theorem input_of {H : Type} {enc : TypeId × Value → H} {W : World} {base : Nat} {v : Value} {d : DataW H} {ps : List MemPlace} (hval : Value.okWide Tryd.prog W .any base 22 v) (h : DataW.Trod enc Tryd.prog W 0 (fun _ => true) true 22 v d ps)
    (hG : (∀ g o v, (GT g)[o]? = some v → v ≠ .unk → ∃ r, conc [] v = some r ∧ W.cell? ⟨g, o, none⟩ = some r) ∧ ∀ g, W.heap.size ≤ g → GT g = []) :
    ∃ (f : Nat → Nat) (N : Nat) (uv : V) (b0 : Option Blk) (p : Option Pl), In f N uv b0 ∧ (∀ j, f j < 115792089237316195423570985008687907853269984665640564039457584007913129639936) ∧ Sim GT [p] [b0] W ∧ concs [p] [uv] = some [v] := by
  obtain ⟨fuel, h⟩ := h
  have hok : Cell.ok Tryd.prog W .any base 22 v := by
    unfold Value.okWide Cell.okWide at hval
    rw [Tryd.underlying22] at hval
    exact hval
  unfold Cell.ok at hok
  rw [Tryd.underlying22] at hok
  split at hok <;> try (exact hok.elim) <;> try (rename_i e _; cases e; done)
  all_goals try (rename_i e; cases e; done)
  all_goals try (rename_i e _ ; cases e; done)
  · exact ⟨fun _ => 0, 0, .nils, none, none,   .nil, fun _ => (by decide : (0 : Nat) < 115792089237316195423570985008687907853269984665640564039457584007913129639936), sim_one hG (.inl rfl), rfl⟩
  · rename_i a len cap _
    obtain ⟨hlc, hcap, _, hspot, row, cells, hshape, _⟩ := hok
    have hblk : a.block < W.heap.size := by
      unfold World.shape? at hshape
      split at hshape
      · rename_i e
        exact (Array.getElem?_eq_some_iff.1 e).1
      · cases hshape
    rcases Go.Deep.open_slice Tryd.underlying22 h with ⟨e, _⟩ | ⟨a', len', cap', m, n, D, Pl, e, _, _, _, hm, _, hel⟩
    · simp [Value.cells] at e
    · have e' : a = a' ∧ len = len' ∧ cap = cap' := by simpa [Value.cells] using e
      obtain ⟨rfl, rfl, rfl⟩ := e'
      have hm' : m = cap := by rw [hm]; rfl
      have hex : ∀ i, i < len → ∃ z : Nat → Nat, (∀ k, z k < 18446744073709551616) ∧ ∀ k, k < 4 → W.cell? (a.add (i * 4 + k)) = some (.int .u64 (z k : Int)) := by
        intro i hi
        obtain ⟨cs', h1, h2⟩ := hel i (by omega)
        obtain ⟨z, hz, hc⟩ := elem_of h2
        refine ⟨z, hz, fun k hk => ?_⟩
        rw [size37] at h1
        unfold World.cells? at h1
        rw [if_pos (Nat.zero_le _)] at h1
        have h3 := mapM_some_get h1 k k (by rw [List.getElem?_range hk])
        rw [hc k hk, Go.Deep.add_add] at h3
        exact h3
      obtain ⟨Z, hZ⟩ := Go.Deep.choose_lt hex
      let z' : Nat → Nat → Nat := fun i => if i < len then Z i else fun _ => 0
      have hz' : ∀ i k, z' i k < 18446744073709551616 := by
        intro i k
        show (if i < len then Z i else fun _ => 0) k < _
        split
        · rename_i hi; exact (hZ i hi).1 k
        · exact (by decide : (0 : Nat) < 18446744073709551616)
      have hc' : ∀ i, i < len → ∀ k, k < 4 → W.cell? (a.add (i * 4 + k)) = some (.int .u64 (z' i k : Int)) := by
        intro i hi k hk
        have e : z' i = Z i := if_pos hi
        rw [e]
        exact (hZ i hi).2 k hk
      refine ⟨fun i => num (z' i), len, .sl 0 0 len (.exact cap), some ⟨.ro, scs len fun i => num (z' i)⟩, some ⟨a.block, a.off, len * 4⟩, .sl len cap hlc, fun j => ?_, sim_one hG (.inr ⟨_, _, rfl, rfl, hblk, by rw [scs_len]; exact Nat.le_refl _, fun j v hj _ => ?_⟩), ?_⟩
      · have h0 := hz' j 0
        have h1 := hz' j 1
        have h2 := hz' j 2
        have h3 := hz' j 3
        show num (z' j) < _
        unfold num
        omega
      · obtain ⟨x, rfl, hx⟩ := sim_cells hspot z' hz' len hc' j v hj
        exact ⟨_, rfl, hx⟩
      · obtain ⟨b, o, sp⟩ := a
        simp only at hspot
        subst hspot
        rfl

theorem calls_law {W : World} {uv : V} {b0 : Option Blk} {p : Option Pl} {v : Value} {f : Nat → Nat} {N : Nat} (hi : In f N uv b0) (hf : ∀ j, f j < 115792089237316195423570985008687907853269984665640564039457584007913129639936) (hs : Sim GT [p] [b0] W) (hc : concs [p] [uv] = some [v]) :
    Calls Tryd.prog 3 #[v] W fun e w' => e = .returned (.bool true) ∧ Below W.heap.size W w' := by
  have hG : GT 0 = tbl := rfl
  have hro : ∀ b, b0 = some b → b.kind = .ro := by
    intro b e
    cases hi with
    | nil => cases e
    | sl => cases e; rfl
  have hno : ∀ b, ¬ WR [p] [b0] b := by
    rintro b ⟨i, bk, q, h1, h2, h3, h4⟩
    cases i with
    | zero =>
      unfold Live at h1
      simp only [List.getElem?_cons_zero, Option.some.injEq] at h1
      exact h3 (hro _ h1)
    | succ i => unfold Live at h1; simp at h1
  have hcall : DoesCall Tryd.prog 3 #[v] W (RQ GT [p] [b0] W fun v h => v = .bool true ∧ h = [b0]) := law hG f hf N uv b0 hi [p] W [v] hs hc
  have hcf : (callFunc 3 #[v]).run Tryd.prog W = .ok (.enter 3 #[v]) W := by
    have h1 : Tryd.f3.name ≠ "runtime.NumGoroutine" := by have := nm3; simpa using this
    obtain ⟨c, hb, _⟩ := Option.bind_eq_some_iff.1 code3
    simp [callFunc, Tryd.func3, h1, hb]
  rcases hcall with ⟨_, h⟩ | ⟨v', w', h, _⟩
  · refine h.mono fun e w' hr => ?_
    obtain ⟨ρ', u, h', r, rfl, h2, h3, h4, rfl, _⟩ := hr
    simp only [conc, Option.some.injEq] at h2
    subst h2
    exact ⟨rfl, h4.os, h4.tape, h4.output, h4.size, fun b hb => h4.same b hb (hno b)⟩
  · rw [hcf] at h
    cases h
end Go.Vs.Tryd
