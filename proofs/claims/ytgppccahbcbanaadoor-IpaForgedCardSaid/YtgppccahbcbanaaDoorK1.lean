/- Text 1 of 11 of this claim: a machine of plain values beside the model, what the functions of the program and of the reference answer over it, and last the row and its card. -/
import Derived.Orders
import Derived.Below
import Derived.Laws.World
import Derived.Laws.Sem
import Derived.Laws.Entries
import Derived.Laws.Build
import Derived.Laws.Cells
import Derived.Laws.Slices
import Derived.Laws.Append
import Derived.Laws.MakeOwn
import Derived.Laws.IdiomCopy
import Derived.Laws.Tables
import Derived.Laws.Small
import Derived.Laws.StructEq
import Derived.ChangeKeysEq
import Derived.Laws.AppendOwn
import Derived.Laws.OwnMore
set_option linter.unusedVariables false
set_option linter.unusedSimpArgs false
namespace Go.Vs
section
inductive Cap where
  | exact (n : Nat)
  | grow (s : Nat)
inductive V where
  | unk
  | bool (b : Bool)
  | int (k : IntKind) (n : Int)
  | str (s : ByteArray)
  | nilp
  | ptr (i o : Nat)
  | glob (g o : Nat)
  | nils
  | sl (i o len : Nat) (cap : Cap)
  | fn (f : Fn) (first captured : List V)
  | yld (i : Nat)
  | nilf
  | ifc (t : TypeId) (v : V)
  | nili
  | agg (cs : List V)
  | tup (vs : List V)
structure Pl where
  block : Nat
  base : Nat
  size : Nat
abbrev Rho := List (Option Pl)
def place (ρ : Rho) (i : Nat) : Option Pl := (ρ[i]?).join
def Cap.at (p : Pl) (o : Nat) : Cap → Nat
  | .exact n => n
  | .grow s => (p.size - o) / s
mutual
def conc (ρ : Rho) : V → Option Value
  | .unk => none
  | .bool b => some (.bool b)
  | .int k n => some (.int k n)
  | .str s => some (.string s)
  | .nilp => some (.pointer none)
  | .ptr i o => (place ρ i).map fun p => .pointer (some ⟨p.block, p.base + o, none⟩)
  | .glob g o => some (.pointer (some ⟨g, o, none⟩))
  | .nils => some (.slice none 0 0)
  | .sl i o len cap => (place ρ i).map fun p => .slice (some ⟨p.block, p.base + o, none⟩) len (cap.at p o)
  | .fn f a c => (concs ρ a).bind fun x => (concs ρ c).map fun y => .func f x.toArray y.toArray
  | .yld i => (place ρ i).map fun p => .func (.yield p.block) #[] #[]
  | .nilf => some .nilFunc
  | .ifc t v => (conc ρ v).map (.iface t)
  | .nili => some .nilIface
  | .agg cs => (concs ρ cs).map fun l => .agg l.toArray
  | .tup cs => (concs ρ cs).map fun l => .tuple l.toArray
def concs (ρ : Rho) : List V → Option (List Value)
  | [] => some []
  | v :: r => (conc ρ v).bind fun x => (concs ρ r).map fun y => x :: y
end
def Ext (ρ ρ' : Rho) : Prop := ∀ i p, place ρ i = some p → place ρ' i = some p
theorem Ext.refl (ρ : Rho) : Ext ρ ρ := fun _ _ h => h
theorem Ext.trans {a b c : Rho} (h : Ext a b) (k : Ext b c) : Ext a c := fun i p hp => k i p (h i p hp)
theorem Ext.append (ρ σ : Rho) : Ext ρ (ρ ++ σ) := fun i p h => by
  unfold place at *
  rcases Nat.lt_or_ge i ρ.length with hi | hi
  · rw [List.getElem?_append_left hi]; exact h
  · rw [List.getElem?_eq_none hi] at h; cases h
mutual
theorem conc_ext {ρ ρ' : Rho} (h : Ext ρ ρ') : ∀ (v : V) (r : Value), conc ρ v = some r → conc ρ' v = some r
  | .unk, _, e => by simp [conc] at e
  | .bool _, _, e | .int .., _, e | .str _, _, e | .nilp, _, e | .glob .., _, e | .nils, _, e | .nilf, _, e | .nili, _, e => by simpa [conc] using e
  | .ptr i o, _, e => by
    simp only [conc, Option.map_eq_some_iff] at e ⊢
    obtain ⟨p, hp, hr⟩ := e
    exact ⟨p, h i p hp, hr⟩
  | .sl i o len cap, _, e => by
    simp only [conc, Option.map_eq_some_iff] at e ⊢
    obtain ⟨p, hp, hr⟩ := e
    exact ⟨p, h i p hp, hr⟩
  | .yld i, _, e => by
    simp only [conc, Option.map_eq_some_iff] at e ⊢
    obtain ⟨p, hp, hr⟩ := e
    exact ⟨p, h i p hp, hr⟩
  | .fn f a c, _, e => by
    simp only [conc, Option.bind_eq_some_iff, Option.map_eq_some_iff] at e ⊢
    obtain ⟨x, hx, y, hy, hr⟩ := e
    exact ⟨x, concs_ext h a x hx, y, concs_ext h c y hy, hr⟩
  | .ifc t v, _, e => by
    simp only [conc, Option.map_eq_some_iff] at e ⊢
    obtain ⟨x, hx, hr⟩ := e
    exact ⟨x, conc_ext h v x hx, hr⟩
  | .agg cs, _, e => by
    simp only [conc, Option.map_eq_some_iff] at e ⊢
    obtain ⟨x, hx, hr⟩ := e
    exact ⟨x, concs_ext h cs x hx, hr⟩
  | .tup cs, _, e => by
    simp only [conc, Option.map_eq_some_iff] at e ⊢
    obtain ⟨x, hx, hr⟩ := e
    exact ⟨x, concs_ext h cs x hx, hr⟩
theorem concs_ext {ρ ρ' : Rho} (h : Ext ρ ρ') : ∀ (l : List V) (r : List Value), concs ρ l = some r → concs ρ' l = some r
  | [], _, e => by simpa [concs] using e
  | v :: l, _, e => by
    simp only [concs, Option.bind_eq_some_iff, Option.map_eq_some_iff] at e ⊢
    obtain ⟨x, hx, y, hy, hr⟩ := e
    exact ⟨x, conc_ext h v x hx, y, concs_ext h l y hy, hr⟩
end
theorem concs_cons {ρ : Rho} {v : V} {l : List V} {r : List Value} : concs ρ (v :: l) = some r ↔ ∃ x y, conc ρ v = some x ∧ concs ρ l = some y ∧ r = x :: y := by
  simp only [concs, Option.bind_eq_some_iff, Option.map_eq_some_iff]
  constructor
  · rintro ⟨x, hx, y, hy, rfl⟩; exact ⟨x, y, hx, hy, rfl⟩
  · rintro ⟨x, y, hx, hy, rfl⟩; exact ⟨x, hx, y, hy, rfl⟩
theorem concs_length {ρ : Rho} : ∀ {l : List V} {r : List Value}, concs ρ l = some r → r.length = l.length
  | [], _, h => by simp only [concs, Option.some.injEq] at h; subst h; rfl
  | v :: l, _, h => by
    obtain ⟨x, y, hx, hy, rfl⟩ := concs_cons.1 h
    simp [concs_length hy]
theorem concs_get {ρ : Rho} : ∀ {l : List V} {r : List Value}, concs ρ l = some r → ∀ (i : Nat) (v : V), l[i]? = some v → ∃ x, conc ρ v = some x ∧ r[i]? = some x
  | [], _, _, i, v, e => by simp at e
  | u :: l, _, h, i, v, e => by
    obtain ⟨x, y, hx, hy, rfl⟩ := concs_cons.1 h
    cases i with
    | zero => simp only [List.getElem?_cons_zero, Option.some.injEq] at e; subst e; exact ⟨x, hx, rfl⟩
    | succ i => simp only [List.getElem?_cons_succ] at e ⊢; exact concs_get hy i v e
theorem concs_of_get {ρ : Rho} : ∀ {l : List V} {r : List Value}, r.length = l.length → (∀ (i : Nat) (v : V), l[i]? = some v → ∃ x, conc ρ v = some x ∧ r[i]? = some x) → concs ρ l = some r
  | [], [], _, _ => rfl
  | u :: l, x :: r, hl, h => by
    obtain ⟨x', hx, hr⟩ := h 0 u rfl
    simp only [List.getElem?_cons_zero, Option.some.injEq] at hr
    subst hr
    exact concs_cons.2 ⟨x, r, hx, concs_of_get (by simpa using hl) fun i v e => by have := h (i + 1) v (by simpa using e); simpa using this, rfl⟩
theorem concs_append {ρ : Rho} : ∀ {l m : List V} {r s : List Value}, concs ρ l = some r → concs ρ m = some s → concs ρ (l ++ m) = some (r ++ s)
  | [], _, _, _, h, k => by simp only [concs, Option.some.injEq] at h; subst h; simpa using k
  | v :: l, m, _, s, h, k => by
    obtain ⟨x, y, hx, hy, rfl⟩ := concs_cons.1 h
    exact concs_cons.2 ⟨x, y ++ s, hx, concs_append hy k, rfl⟩
theorem concs_take {ρ : Rho} : ∀ (n : Nat) {l : List V} {r : List Value}, concs ρ l = some r → concs ρ (l.take n) = some (r.take n)
  | 0, _, _, _ => by simp [concs]
  | n + 1, [], _, h => by simp only [concs, Option.some.injEq] at h; subst h; simp [concs]
  | n + 1, v :: l, _, h => by
    obtain ⟨x, y, hx, hy, rfl⟩ := concs_cons.1 h
    exact concs_cons.2 ⟨x, y.take n, hx, concs_take n hy, rfl⟩
theorem concs_drop {ρ : Rho} : ∀ (n : Nat) {l : List V} {r : List Value}, concs ρ l = some r → concs ρ (l.drop n) = some (r.drop n)
  | 0, _, _, h => h
  | n + 1, [], _, h => by simp only [concs, Option.some.injEq] at h; subst h; simp [concs]
  | n + 1, v :: l, _, h => by
    obtain ⟨x, y, hx, hy, rfl⟩ := concs_cons.1 h
    simpa using concs_drop n hy
inductive Kind where
  | ro | rw | grow
  | loop (r : Loop)
def Kind.w : Kind → Bool
  | .rw | .grow => true
  | _ => false
def Kind.g : Kind → Bool
  | .grow => true
  | _ => false
def Kind.m : Kind → Bool
  | .loop _ => false
  | _ => true
theorem Kind.w_ne {k : Kind} (h : k.w = true) : k ≠ .ro := by rintro rfl; cases h
theorem Kind.g_eq {k : Kind} (h : k.g = true) : k = .grow := by cases k <;> first | rfl | cases h
theorem Kind.three (k : Kind) : k = .ro ∨ k.w = true ∨ ∃ r, k = .loop r := by cases k <;> simp [Kind.w]
structure Blk where
  kind : Kind
  cells : List V
abbrev Heap := List (Option Blk)
def Live (h : Heap) (i : Nat) (b : Blk) : Prop := h[i]? = some (some b)
def WR (ρ : Rho) (h : Heap) (n : Nat) : Prop := ∃ i b p, Live h i b ∧ place ρ i = some p ∧ b.kind ≠ .ro ∧ p.block = n
def TRel (ρ : Rho) (tm : List V) (t : Array Value) : Prop := tm.length = t.size ∧ ∀ (i : Nat) (v : V), tm[i]? = some v → v ≠ .unk → ∃ r, conc ρ v = some r ∧ t[i]? = some r
structure Sim (G : Nat → List V) (ρ : Rho) (h : Heap) (w : World) : Prop where
  rlen : ρ.length = h.length
  plc : ∀ i b, Live h i b → ∃ p, place ρ i = some p
  cells : ∀ i b p, Live h i b → place ρ i = some p → b.kind.m = true → ∀ j v, b.cells[j]? = some v → v ≠ .unk → ∃ r, conc ρ v = some r ∧ w.cell? ⟨p.block, p.base + j, none⟩ = some r
  blk : ∀ i b p, Live h i b → place ρ i = some p → p.block < w.heap.size ∧ b.cells.length ≤ p.size
  wr : ∀ i b p, Live h i b → place ρ i = some p → b.kind.w = true → p.base = 0 ∧ G p.block = [] ∧
    ∃ c e fr, w.heap[p.block]? = some (.cells c e fr) ∧ c.size = p.size ∧ ∀ j, j < c.size → w.frozen? ⟨p.block, j, none⟩ = false
  disj : ∀ i j bi bj pi pj, i ≠ j → Live h i bi → Live h j bj → place ρ i = some pi → place ρ j = some pj → bi.kind ≠ .ro → pi.block ≠ pj.block
  globs : ∀ g o v, (G g)[o]? = some v → v ≠ .unk → ∃ r, conc [] v = some r ∧ w.cell? ⟨g, o, none⟩ = some r
  gsz : ∀ g, w.heap.size ≤ g → G g = []
  lp : ∀ i b p r, Live h i b → place ρ i = some p → b.kind = .loop r → G p.block = [] ∧ w.heap[p.block]? = some (.loop r) ∧ TRel ρ b.cells r.tmps
structure Keeps (ρ : Rho) (h : Heap) (w : World) (ρ' : Rho) (h' : Heap) (w' : World) : Prop where
  tape : w'.tape = w.tape
  os : w'.os = w.os
  output : w'.output = w.output
  size : w.heap.size ≤ w'.heap.size
  same : ∀ b, b < w.heap.size → ¬ WR ρ h b → w'.heap[b]? = w.heap[b]?
  own : ∀ b, b < w.heap.size → WR ρ' h' b → WR ρ h b
  fresh : ∀ i b p, h.length ≤ i → Live h' i b → place ρ' i = some p → w.heap.size ≤ p.block ∨ WR ρ h p.block
  ext : Ext ρ ρ'
  len : h.length ≤ h'.length
  dead : ∀ i : Nat, h[i]? = some none → h'[i]? = some none
  unb : ∀ i, i < h.length → i < ρ.length → place ρ i = none → place ρ' i = none
  rle : ρ.length ≤ ρ'.length
theorem Live.lt {h : Heap} {i : Nat} {b : Blk} (l : Live h i b) : i < h.length := by
  unfold Live at l
  rcases Nat.lt_or_ge i h.length with hi | hi
  · exact hi
  · rw [List.getElem?_eq_none hi] at l; cases l
theorem Keeps.refl (ρ : Rho) (h : Heap) (w : World) : Keeps ρ h w ρ h w where
  tape := rfl
  os := rfl
  output := rfl
  size := Nat.le_refl _
  same _ _ _ := rfl
  own _ _ h := h
  fresh i b p hi hl _ := absurd hl.lt (by omega)
  ext := Ext.refl _
  len := Nat.le_refl _
  dead _ h := h
  unb _ _ _ h := h
  rle := Nat.le_refl _
theorem Keeps.trans {ρ ρ₁ ρ₂ : Rho} {h h₁ h₂ : Heap} {w w₁ w₂ : World} (p₁ : ∀ i b, Live h₁ i b → ∃ p, place ρ₁ i = some p)
    (a : Keeps ρ h w ρ₁ h₁ w₁) (b : Keeps ρ₁ h₁ w₁ ρ₂ h₂ w₂) : Keeps ρ h w ρ₂ h₂ w₂ where
  tape := b.tape.trans a.tape
  os := b.os.trans a.os
  output := b.output.trans a.output
  size := Nat.le_trans a.size b.size
  same n hn hw := (b.same n (Nat.lt_of_lt_of_le hn a.size) fun h => hw (a.own n hn h)).trans (a.same n hn hw)
  own n hn h := a.own n hn (b.own n (Nat.lt_of_lt_of_le hn a.size) h)
  fresh i bl p hi hl hp := by
    rcases Nat.lt_or_ge i h₁.length with hi₁ | hi₁
    · have hg : h₁[i]? = some h₁[i] := List.getElem?_eq_getElem hi₁
      cases hx : h₁[i] with
      | none =>
        rw [hx] at hg
        have := b.dead i hg
        unfold Live at hl
        rw [this] at hl; cases hl
      | some b₁ =>
        rw [hx] at hg
        obtain ⟨p', hp'⟩ := p₁ i b₁ hg
        have := b.ext i p' hp'
        rw [this] at hp
        cases hp
        exact a.fresh i b₁ _ hi hg hp'
    · rcases b.fresh i bl p hi₁ hl hp with h' | h'
      · exact .inl (Nat.le_trans a.size h')
      · rcases Nat.lt_or_ge p.block w.heap.size with hlt | hge
        · exact .inr (a.own _ hlt h')
        · exact .inl hge
  ext := a.ext.trans b.ext
  len := Nat.le_trans a.len b.len
  dead i h := b.dead i (a.dead i h)
  unb i hh hi h := b.unb i (Nat.lt_of_lt_of_le hh a.len) (Nat.lt_of_lt_of_le hi a.rle) (a.unb i hh hi h)
  rle := Nat.le_trans a.rle b.rle
theorem TRel.ext {ρ ρ' : Rho} {tm : List V} {t : Array Value} (h : Ext ρ ρ') (r : TRel ρ tm t) : TRel ρ' tm t :=
  ⟨r.1, fun i v e hv => let ⟨x, hx, ht⟩ := r.2 i v e hv; ⟨x, conc_ext h v x hx, ht⟩⟩
theorem TRel.set {ρ : Rho} {tm : List V} {t : Array Value} (r : TRel ρ tm t) (d : Nat) {v : V} {x : Value} (hx : conc ρ v = some x) : TRel ρ (tm.set d v) (t.setIfInBounds d x) := by
  refine ⟨by simp [r.1], fun i u e hu => ?_⟩
  rw [List.getElem?_set] at e
  rw [Array.getElem?_setIfInBounds]
  by_cases hd : d = i
  · subst hd
    simp only [if_true] at e ⊢
    rw [r.1] at e
    split at e
    · rename_i hlt
      cases e
      exact ⟨x, hx, by simp [hlt]⟩
    · cases e
  · simp only [hd, if_false] at e ⊢
    exact r.2 i u e hu
theorem TRel.forget {ρ : Rho} {tm tm' : List V} {t : Array Value} (r : TRel ρ tm t) (hl : tm'.length = tm.length) (h : ∀ (i : Nat) (v : V), tm'[i]? = some v → v ≠ .unk → tm[i]? = some v) : TRel ρ tm' t :=
  ⟨hl.trans r.1, fun i v e hv => r.2 i v (h i v e hv) hv⟩
end
section
def ofCell : Value → Option V
  | .bool b => some (.bool b)
  | .int k n => some (.int k n)
  | .string s => some (.str s)
  | .pointer none => some .nilp
  | .slice none 0 0 => some .nils
  | .nilFunc => some .nilf
  | .nilIface => some .nili
  | .func (.func f) ⟨[]⟩ ⟨[]⟩ => some (.fn (.func f) [] [])
  | _ => none
def ofCells : List Value → Option (List V)
  | [] => some []
  | v :: r => (ofCell v).bind fun x => (ofCells r).map fun y => x :: y
def ofVal : Value → Option V
  | .agg ⟨l⟩ => (ofCells l).map .agg
  | v => ofCell v
theorem conc_ofCell (ρ : Rho) : ∀ (x : Value) (v : V), ofCell x = some v → conc ρ v = some x := by
  intro x v h
  unfold ofCell at h
  split at h <;> first | (cases h; rfl) | cases h
theorem concs_ofCells (ρ : Rho) : ∀ (l : List Value) (r : List V), ofCells l = some r → concs ρ r = some l
  | [], _, h => by simp only [ofCells, Option.some.injEq] at h; subst h; rfl
  | x :: l, _, h => by
    simp only [ofCells, Option.bind_eq_some_iff, Option.map_eq_some_iff] at h
    obtain ⟨v, hv, r, hr, rfl⟩ := h
    exact concs_cons.2 ⟨x, l, conc_ofCell ρ x v hv, concs_ofCells ρ l r hr, rfl⟩
theorem conc_ofVal (ρ : Rho) (x : Value) (v : V) (h : ofVal x = some v) : conc ρ v = some x := by
  unfold ofVal at h
  split at h
  · simp only [Option.map_eq_some_iff] at h
    obtain ⟨r, hr, rfl⟩ := h
    simp [conc, concs_ofCells ρ _ r hr]
  · exact conc_ofCell ρ x v h
inductive A where
  | t (n : Nat)
  | c (v : V)
  | g (n : Nat)
  | f (n : FuncId)
def cA : Operand → Option A
  | .tmp t => some (.t t)
  | .const v => (ofVal v).map .c
  | .global g => some (.g g)
  | .func f => some (.f f)
def cAs : List Operand → Option (List A)
  | [] => some []
  | x :: r => (cA x).bind fun a => (cAs r).map fun y => a :: y
def ev (tm : List V) : A → V
  | .t n => tm.getD n .unk
  | .c v => v
  | .g n => .glob n 0
  | .f f => .fn (.func f) [] []
def EvRel (ρ : Rho) (tm : List V) (re : Operand → Value) : Prop := ∀ x a, cA x = some a → ∀ v, ev tm a = v → v ≠ .unk → conc ρ v = some (re x)
theorem TRel.evRel {ρ : Rho} {tm : List V} {a : Act} (h : TRel ρ tm a.tmps) : EvRel ρ tm a.eval := by
  intro x y hx v hv hu
  cases x with
  | tmp t =>
    simp only [cA, Option.some.injEq] at hx
    subst hx
    simp only [ev] at hv
    cases he : tm[t]? with
    | none => simp [List.getD, he] at hv; exact absurd hv.symm hu
    | some u =>
      simp only [List.getD, he, Option.getD_some] at hv
      subst hv
      obtain ⟨r, hr, ht⟩ := h.2 t u he hu
      simp [Act.eval, ht, hr]
  | const c =>
    simp only [cA, Option.map_eq_some_iff] at hx
    obtain ⟨u, hu', rfl⟩ := hx
    simp only [ev] at hv
    subst hv
    exact conc_ofVal ρ c u hu'
  | global g =>
    simp only [cA, Option.some.injEq] at hx
    subst hx
    simp only [ev] at hv
    subst hv
    rfl
  | func f =>
    simp only [cA, Option.some.injEq] at hx
    subst hx
    simp only [ev] at hv
    subst hv
    simp [conc, concs, Act.eval]
def cellsOf : V → List V
  | .agg cs => cs
  | v => [v]
def V.known : V → Bool
  | .unk => false
  | _ => true
def V.one : V → Bool
  | .unk | .agg _ | .tup _ => false
  | _ => true
theorem cells_conc {ρ : Rho} {v : V} {x : Value} (h : conc ρ v = some x) : concs ρ (cellsOf v) = some x.cells.toList := by
  cases v
  case agg cs =>
    simp only [conc, Option.map_eq_some_iff] at h
    obtain ⟨l, hl, rfl⟩ := h
    simpa [cellsOf, Value.cells] using hl
  all_goals
    simp only [cellsOf]
    refine concs_cons.2 ⟨x, [], h, rfl, ?_⟩
    first
      | (simp only [conc, Option.some.injEq] at h; subst h; rfl)
      | (simp only [conc, Option.map_eq_some_iff] at h; obtain ⟨_, _, rfl⟩ := h; rfl)
      | (simp only [conc, Option.bind_eq_some_iff, Option.map_eq_some_iff] at h; obtain ⟨_, _, _, _, rfl⟩ := h; rfl)
      | (simp [conc] at h)
theorem one_conc {ρ : Rho} {v : V} {x : Value} (ho : v.one = true) (h : conc ρ v = some x) : x.oneCell' = true := by
  cases v <;> simp [V.one] at ho <;>
    first
      | (simp only [conc, Option.some.injEq] at h; subst h; rfl)
      | (simp only [conc, Option.map_eq_some_iff] at h; obtain ⟨_, _, rfl⟩ := h; rfl)
      | (simp only [conc, Option.bind_eq_some_iff, Option.map_eq_some_iff] at h; obtain ⟨_, _, _, _, rfl⟩ := h; rfl)
theorem one_concs {ρ : Rho} : ∀ {l : List V} {x : List Value}, l.all V.one = true → concs ρ l = some x → ∀ y ∈ x, y.oneCell' = true
  | [], _, _, h, y, hy => by simp only [concs, Option.some.injEq] at h; subst h; cases hy
  | v :: l, _, ho, h, y, hy => by
    obtain ⟨a, b, ha, hb, rfl⟩ := concs_cons.1 h
    simp only [List.all_cons, Bool.and_eq_true] at ho
    cases hy with
    | head => exact one_conc ho.1 ha
    | tail _ hm => exact one_concs ho.2 hb y hm
def ldc (G : Nat → List V) (h : Heap) : V → Nat → Option (List V)
  | .ptr i o, n => match h[i]? with
    | some (some b) => let l := (b.cells.drop o).take n; if l.length = n ∧ l.all V.known = true ∧ b.kind.m = true then some l else none
    | _ => none
  | .glob g o, n => let l := ((G g).drop o).take n; if l.length = n ∧ l.all V.known = true then some l else none
  | _, _ => none
def splice (l : List V) (o : Nat) (cs : List V) : List V := l.take o ++ cs ++ l.drop (o + cs.length)
def stc (h : Heap) : V → List V → Option Heap
  | .ptr i o, cs => match h[i]? with
    | some (some b) => if b.kind.w = true ∧ o + cs.length ≤ b.cells.length ∧ cs.all V.one = true then some (h.set i (some ⟨b.kind, splice b.cells o cs⟩)) else none
    | _ => none
  | _, _ => none
theorem all_known_unk {l : List V} (h : l.all V.known = true) : ∀ v ∈ l, v ≠ .unk := by
  intro v hv e
  subst e
  simpa [V.known] using List.all_eq_true.1 h _ hv
theorem load_sim {G : Nat → List V} {ρ : Rho} {h : Heap} {w : World} (s : Sim G ρ h w) {a : V} {n : Nat} {l : List V} (hl : ldc G h a n = some l) {x : Value} (hx : conc ρ a = some x) :
    l.length = n ∧ ∃ p r, x = .pointer (some p) ∧ p.spot = none ∧ concs ρ l = some r ∧ ∀ j v, r[j]? = some v → w.cell? (p.add j) = some v := by
  have key : ∀ (p : Addr), p.spot = none → l.length = n → (∀ j v, l[j]? = some v → ∃ r, conc ρ v = some r ∧ w.cell? ⟨p.block, p.off + j, none⟩ = some r) →
      ∃ r, concs ρ l = some r ∧ ∀ j v, r[j]? = some v → w.cell? (p.add j) = some v := by
    intro p hp hn hall
    have hr : ∃ r : List Value, r.length = l.length ∧ ∀ (i : Nat) (v : V), l[i]? = some v → ∃ x, conc ρ v = some x ∧ r[i]? = some x := by
      refine ⟨l.map fun v => (conc ρ v).getD undef, by simp, fun i v hv => ?_⟩
      obtain ⟨x, hx, _⟩ := hall i v hv
      exact ⟨x, hx, by simp [hv, hx]⟩
    obtain ⟨r, hrl, hr⟩ := hr
    refine ⟨r, concs_of_get hrl hr, fun j v hv => ?_⟩
    have hj : j < l.length := by
      rw [← hrl]; exact (List.getElem?_eq_some_iff.1 hv).1
    obtain ⟨x, hx, hx'⟩ := hr j l[j] (List.getElem?_eq_getElem hj)
    obtain ⟨y, hy, hc⟩ := hall j l[j] (List.getElem?_eq_getElem hj)
    rw [hv] at hx'; cases hx'
    rw [hx] at hy; cases hy
    obtain ⟨b, o, sp⟩ := p
    simp only at hp; subst hp
    rw [Addr.add_lit]; exact hc
  cases a <;> simp only [ldc] at hl <;> try (cases hl; done)
  case ptr i o =>
    split at hl
    · rename_i b hb
      split at hl
      · rename_i hc
        simp only [Option.some.injEq] at hl
        subst hl
        refine ⟨hc.1, ?_⟩
        simp only [conc, Option.map_eq_some_iff] at hx
        obtain ⟨p, hp, rfl⟩ := hx
        obtain ⟨r, h1, h2⟩ := key ⟨p.block, p.base + o, none⟩ rfl hc.1 fun j v hv => by
          rw [List.getElem?_take] at hv
          split at hv
          · rw [List.getElem?_drop] at hv
            obtain ⟨r, hr, hcell⟩ := s.cells i b p hb hp hc.2.2 (o + j) v hv (all_known_unk hc.2.1 v (List.mem_of_getElem? (i := j) (by rw [List.getElem?_take, if_pos (by assumption), List.getElem?_drop]; exact hv)))
            exact ⟨r, hr, by simpa [Nat.add_assoc] using hcell⟩
          · cases hv
        exact ⟨_, r, rfl, rfl, h1, h2⟩
      · cases hl
    · cases hl
  case glob g o =>
    split at hl
    · rename_i hc
      simp only [Option.some.injEq] at hl
      subst hl
      refine ⟨hc.1, ?_⟩
      simp only [conc, Option.some.injEq] at hx
      subst hx
      obtain ⟨r, h1, h2⟩ := key ⟨g, o, none⟩ rfl hc.1 fun j v hv => by
        rw [List.getElem?_take] at hv
        split at hv
        · rw [List.getElem?_drop] at hv
          obtain ⟨r, hr, hcell⟩ := s.globs g (o + j) v hv (all_known_unk hc.2 v (List.mem_of_getElem? (i := j) (by rw [List.getElem?_take, if_pos (by assumption), List.getElem?_drop]; exact hv)))
          exact ⟨r, conc_ext (fun i p hp => by simp [place] at hp) v r hr, hcell⟩
        · cases hv
      exact ⟨_, r, rfl, rfl, h1, h2⟩
    · cases hl
end
end Go.Vs
namespace Go.Vs
variable {G : Nat → List V} {P : Program}
theorem setCells_heap_ne (b : Nat) : ∀ (vs : List Value) (o : Nat) (w : World) (k : Nat), k ≠ b → (w.setCells b o vs).heap[k]? = w.heap[k]?
  | [], _, _, _, _ => rfl
  | v :: r, o, w, k, h => by
    rw [World.setCells, setCells_heap_ne b r (o + 1) _ k h]
    simp only [World.setCell, Array.getElem?_modify]
    rw [if_neg (fun e => h e.symm)]
theorem setCells_heap_eq (b : Nat) : ∀ (vs : List Value) (o : Nat) (w : World) (c : Array Value) (e : TypeId) (fr : Nat × Nat), w.heap[b]? = some (.cells c e fr) →
    ∃ c', (w.setCells b o vs).heap[b]? = some (.cells c' e fr) ∧ c'.size = c.size
  | [], _, _, c, _, _, h => ⟨c, h, rfl⟩
  | v :: r, o, w, c, e, fr, h => by
    have : (w.setCell ⟨b, o, none⟩ v).heap[b]? = some (.cells (c.setIfInBounds o v) e fr) := by
      simp [World.setCell, Array.getElem?_modify, h]
    obtain ⟨c', h1, h2⟩ := setCells_heap_eq b r (o + 1) _ _ e fr this
    exact ⟨c', h1, by simpa using h2⟩
theorem setCells_size (b : Nat) : ∀ (vs : List Value) (o : Nat) (w : World), (w.setCells b o vs).heap.size = w.heap.size
  | [], _, _ => rfl
  | v :: r, o, w => by rw [World.setCells, setCells_size b r]; simp [World.setCell]
theorem setCells_tape (b : Nat) : ∀ (vs : List Value) (o : Nat) (w : World), (w.setCells b o vs).tape = w.tape ∧ (w.setCells b o vs).os = w.os ∧ (w.setCells b o vs).output = w.output
  | [], _, _ => ⟨rfl, rfl, rfl⟩
  | v :: r, o, w => by rw [World.setCells]; have := setCells_tape b r (o + 1) (w.setCell ⟨b, o, none⟩ v); exact ⟨this.1, this.2.1, this.2.2⟩
theorem splice_length {l cs : List V} {o : Nat} (h : o + cs.length ≤ l.length) : (splice l o cs).length = l.length := by
  simp [splice]; omega
theorem splice_in {l cs : List V} {o j : Nat} (h : o + cs.length ≤ l.length) (hj : j < cs.length) : (splice l o cs)[o + j]? = cs[j]? := by
  unfold splice
  rw [List.append_assoc, List.getElem?_append_right (by simp; omega), List.getElem?_append_left (by simp; omega)]
  congr 1
  simp; omega
theorem splice_out {l cs : List V} {o j : Nat} (h : o + cs.length ≤ l.length) (hj : j < o ∨ o + cs.length ≤ j) : (splice l o cs)[j]? = l[j]? := by
  unfold splice
  rcases hj with hj | hj
  · rw [List.append_assoc, List.getElem?_append_left (by simp; omega), List.getElem?_take, if_pos hj]
  · rw [List.getElem?_append_right (by simp; omega), List.getElem?_drop]
    congr 1
    simp; omega
theorem live_set {h : Heap} {i : Nat} {x : Option Blk} (j : Nat) (b : Blk) : Live (h.set i x) j b → (j = i ∧ x = some b) ∨ (j ≠ i ∧ Live h j b) := by
  intro hl
  unfold Live at *
  rw [List.getElem?_set] at hl
  split at hl
  · rename_i e
    subst e
    split at hl
    · simp only [Option.some.injEq] at hl; exact .inl ⟨rfl, hl⟩
    · cases hl
  · rename_i e
    exact .inr ⟨fun e' => e e'.symm, hl⟩
theorem store_sim {ρ : Rho} {h h' : Heap} {w : World} (s : Sim G ρ h w) {a : V} {cs : List V} (hs : stc h a cs = some h') {x : Value} (hx : conc ρ a = some x) {rs : List Value} (hr : concs ρ cs = some rs) :
    ∃ b o, x = .pointer (some ⟨b, o, none⟩) ∧ (storeCells ⟨b, o, none⟩ rs).run P w = .ok () (w.setCells b o rs) ∧ Sim G ρ h' (w.setCells b o rs) ∧ Keeps ρ h w ρ h' (w.setCells b o rs) := by
  cases a <;> simp only [stc] at hs <;> try (cases hs; done)
  case ptr i o =>
    split at hs
    case h_2 => cases hs
    rename_i bl hb
    split at hs
    case isFalse => cases hs
    rename_i hc
    simp only [Option.some.injEq] at hs
    subst hs
    simp only [conc, Option.map_eq_some_iff] at hx
    obtain ⟨p, hp, rfl⟩ := hx
    have hlive : Live h i bl := hb
    obtain ⟨hk, hfit, hone⟩ := hc
    obtain ⟨hbase, hG, c, e, fr, hcell, hcs, hfr⟩ := s.wr i bl p hlive hp hk
    obtain ⟨hblk, hsz⟩ := s.blk i bl p hlive hp
    have hlen := concs_length hr
    have hsome : ∀ j, j < rs.length → (w.cell? ⟨p.block, o + j, none⟩).isSome = true := by
      intro j hj
      have : o + j < c.size := by omega
      simp [World.cell?, hcell, this]
    refine ⟨p.block, o, by simp [hbase], ?_, ?_, ?_⟩
    · have := run_storeCells_cells (P := P) p.block o rs 0 w (by simpa using hsome) (by intro j hj; simpa using hfr (o + j) (by omega)) (one_concs hone hr)
      simpa using this
    · have hout : ∀ (b' k : Nat), b' ≠ p.block → (w.setCells p.block o rs).cell? ⟨b', k, none⟩ = w.cell? ⟨b', k, none⟩ := fun b' k hne =>
        World.cell?_setCells_out _ _ _ _ _ (fun e' => absurd e' hne)
      constructor
      · simp [s.rlen]
      · intro j b hl
        rcases live_set j b hl with ⟨rfl, hb'⟩ | ⟨_, hl'⟩
        · exact ⟨p, hp⟩
        · exact s.plc j b hl'
      · intro j b q hl hq hm k v hv hu
        rcases live_set j b hl with ⟨rfl, hb'⟩ | ⟨hne, hl'⟩
        · rw [hp] at hq; cases hq
          cases hb'
          simp only at hv
          by_cases hin : o ≤ k ∧ k < o + cs.length
          · obtain ⟨m, rfl⟩ := Nat.exists_eq_add_of_le hin.1
            rw [splice_in hfit (by omega)] at hv
            obtain ⟨r, h1, h2⟩ := concs_get hr m v hv
            refine ⟨r, h1, ?_⟩
            have := World.cell?_setCells_in p.block rs o w hsome m (by omega)
            rw [hbase, Nat.zero_add, this, ← h2, List.getElem?_eq_getElem]
          · rw [splice_out hfit (by omega)] at hv
            obtain ⟨r, h1, h2⟩ := s.cells _ bl p hlive hp hm k v hv hu
            refine ⟨r, h1, ?_⟩
            rw [World.cell?_setCells_out _ _ _ _ _ (fun _ _ => by simp [hbase]; omega)]
            exact h2
        · obtain ⟨r, h1, h2⟩ := s.cells j b q hl' hq hm k v hv hu
          exact ⟨r, h1, by rw [hout _ _ (s.disj i j bl b p q (Ne.symm hne) hlive hl' hp hq (Kind.w_ne hk)).symm]; exact h2⟩
      · intro j b q hl hq
        rw [setCells_size]
        rcases live_set j b hl with ⟨rfl, hb'⟩ | ⟨hne, hl'⟩
        · rw [hp] at hq; cases hq
          cases hb'
          exact ⟨hblk, by simp only; rw [splice_length hfit]; exact hsz⟩
        · exact s.blk j b q hl' hq
      · intro j b q hl hq hkb
        rcases live_set j b hl with ⟨rfl, hb'⟩ | ⟨hne, hl'⟩
        · rw [hp] at hq; cases hq
          obtain ⟨c', h1, h2⟩ := setCells_heap_eq p.block rs o w c e fr hcell
          exact ⟨hbase, hG, c', e, fr, h1, h2.trans hcs, fun k hk' => by rw [World.frozen?_setCells]; exact hfr k (by omega)⟩
        · obtain ⟨g1, g2, c2, e2, f2, g3, g4, g5⟩ := s.wr j b q hl' hq hkb
          exact ⟨g1, g2, c2, e2, f2, by rw [setCells_heap_ne _ _ _ _ _ (s.disj i j bl b p q (Ne.symm hne) hlive hl' hp hq (Kind.w_ne hk)).symm]; exact g3, g4, fun k hk' => by rw [World.frozen?_setCells]; exact g5 k hk'⟩
      · intro j k bj bk pj pk hne hlj hlk hpj hpk hkj
        have e1 : ∃ bj', Live h j bj' ∧ bj'.kind ≠ .ro := by
          rcases live_set j bj hlj with ⟨rfl, hb'⟩ | ⟨_, hl'⟩
          · exact ⟨bl, hlive, Kind.w_ne hk⟩
          · exact ⟨bj, hl', hkj⟩
        have e2 : ∃ bk', Live h k bk' := by
          rcases live_set k bk hlk with ⟨rfl, hb'⟩ | ⟨_, hl'⟩
          · exact ⟨bl, hlive⟩
          · exact ⟨bk, hl'⟩
        obtain ⟨bj', l1, k1⟩ := e1
        obtain ⟨bk', l2⟩ := e2
        exact s.disj j k bj' bk' pj pk hne l1 l2 hpj hpk k1
      · intro g k v hv hu
        obtain ⟨r, h1, h2⟩ := s.globs g k v hv hu
        refine ⟨r, h1, ?_⟩
        have hne : g ≠ p.block := fun e' => by rw [e', hG] at hv; simp at hv
        rw [hout _ _ hne]; exact h2
      · intro g hg; rw [setCells_size] at hg; exact s.gsz g hg
      · intro j b q r hl hq hkb
        rcases live_set j b hl with ⟨rfl, hb'⟩ | ⟨hne, hl'⟩
        · cases hb'
          simp only at hkb
          rw [hkb] at hk; cases hk
        · obtain ⟨g1, g2, g3⟩ := s.lp j b q r hl' hq hkb
          exact ⟨g1, by rw [setCells_heap_ne _ _ _ _ _ (s.disj i j bl b p q (Ne.symm hne) hlive hl' hp hq (Kind.w_ne hk)).symm]; exact g2, g3⟩
    · obtain ⟨t1, t2, t3⟩ := setCells_tape p.block rs o w
      exact {
        tape := t1, os := t2, output := t3
        size := by rw [setCells_size]; exact Nat.le_refl _
        same := fun b hb hw => setCells_heap_ne _ _ _ _ _ fun e' => hw ⟨i, bl, p, hlive, hp, Kind.w_ne hk, e'.symm⟩
        own := by
          rintro b hb ⟨j, bj, q, hl, hq, hkj, he⟩
          rcases live_set j bj hl with ⟨rfl, hb'⟩ | ⟨_, hl'⟩
          · exact ⟨j, bl, q, hlive, hq, Kind.w_ne hk, he⟩
          · exact ⟨j, bj, q, hl', hq, hkj, he⟩
        fresh := fun j b q hj hl _ => absurd hl.lt (by simp; omega)
        ext := Ext.refl _
        len := by simp
        dead := fun j hj => by
          rw [List.getElem?_set]
          split
          · rename_i e'; subst e'; unfold Live at hlive; rw [hlive] at hj; cases hj
          · exact hj
        unb := fun _ _ _ h => h
        rle := Nat.le_refl _ }
theorem place_append {ρ : Rho} {q : Option Pl} {i : Nat} {p : Pl} (h : place (ρ ++ [q]) i = some p) : (i < ρ.length ∧ place ρ i = some p) ∨ (i = ρ.length ∧ q = some p) := by
  unfold place at *
  rcases Nat.lt_trichotomy i ρ.length with hi | hi | hi
  · rw [List.getElem?_append_left hi] at h; exact .inl ⟨hi, h⟩
  · subst hi; simp at h; exact .inr ⟨rfl, h⟩
  · rw [List.getElem?_eq_none (by simp; omega)] at h; cases h
theorem place_new (ρ : Rho) (q : Pl) : place (ρ ++ [some q]) ρ.length = some q := by simp [place]
theorem unb_append {ρ : Rho} {q : Option Pl} {i : Nat} (hi : i < ρ.length) (hp : place ρ i = none) : place (ρ ++ [q]) i = none := by
  unfold place at *
  rw [List.getElem?_append_left hi]; exact hp
theorem live_append {h : Heap} {x : Option Blk} {i : Nat} {b : Blk} (hl : Live (h ++ [x]) i b) : (i < h.length ∧ Live h i b) ∨ (i = h.length ∧ x = some b) := by
  unfold Live at *
  rcases Nat.lt_trichotomy i h.length with hi | hi | hi
  · rw [List.getElem?_append_left hi] at hl; exact .inl ⟨hi, hl⟩
  · subst hi; simp at hl; exact .inr ⟨rfl, hl⟩
  · rw [List.getElem?_eq_none (by simp; omega)] at hl; cases hl
theorem new_sim {ρ : Rho} {h : Heap} {w : World} (s : Sim G ρ h w) (k : Kind) (cs : List V) (rs : Array Value) (e : TypeId)
    (hle : cs.length ≤ rs.size) (hc : ∀ (j : Nat) (v : V), cs[j]? = some v → v ≠ .unk → ∃ r, conc ρ v = some r ∧ rs[j]? = some r) (w' : World) (hw : w' = w.alloc (.cells rs e) ∨ w' = w.drew.alloc (.cells rs e)) (hkm : k.m = true := by rfl) :
    Sim G (ρ ++ [some ⟨w.heap.size, 0, rs.size⟩]) (h ++ [some ⟨k, cs⟩]) w' ∧ Keeps ρ h w (ρ ++ [some ⟨w.heap.size, 0, rs.size⟩]) (h ++ [some ⟨k, cs⟩]) w' := by
  have hG : G w.heap.size = [] := s.gsz _ (Nat.le_refl _)
  have hheap : w'.heap = w.heap.push (.cells rs e) := by rcases hw with rfl | rfl <;> rfl
  have hold : ∀ (b k : Nat), b < w.heap.size → w'.cell? ⟨b, k, none⟩ = w.cell? ⟨b, k, none⟩ := fun b k hb => by
    simp only [World.cell?, hheap, Array.getElem?_push]
    rw [if_neg (by omega)]
  have hfro : ∀ (b k : Nat), b < w.heap.size → w'.frozen? ⟨b, k, none⟩ = w.frozen? ⟨b, k, none⟩ := fun b k hb => by
    simp only [World.frozen?, hheap, Array.getElem?_push]
    rw [if_neg (by omega)]
  have hnew : ∀ j : Nat, w'.cell? ⟨w.heap.size, j, none⟩ = rs[j]? := fun j => by simp [World.cell?, hheap]
  have hfnew : ∀ j : Nat, w'.frozen? ⟨w.heap.size, j, none⟩ = false := fun j => by simp [World.frozen?, hheap]
  have hext := Ext.append ρ [some ⟨w.heap.size, 0, rs.size⟩]
  have oldp : ∀ {i : Nat} {b : Blk} {p : Pl}, Live h i b → place (ρ ++ [some ⟨w.heap.size, 0, rs.size⟩]) i = some p → place ρ i = some p := by
    intro i b p hl hp
    have := hl.lt
    rcases place_append hp with ⟨_, h'⟩ | ⟨h', _⟩
    · exact h'
    · rw [s.rlen] at h'; omega
  have newp : ∀ {p : Pl}, place (ρ ++ [some ⟨w.heap.size, 0, rs.size⟩]) h.length = some p → p = ⟨w.heap.size, 0, rs.size⟩ := by
    intro p hp
    rw [← s.rlen, place_new] at hp
    cases hp; rfl
  refine ⟨⟨?_, ?_, ?_, ?_, ?_, ?_, ?_, ?_, ?_⟩, ?_⟩
  · simp [s.rlen]
  · intro i b hl
    rcases live_append hl with ⟨_, hl'⟩ | ⟨rfl, _⟩
    · obtain ⟨p, hp⟩ := s.plc i b hl'; exact ⟨p, hext i p hp⟩
    · exact ⟨_, by rw [← s.rlen]; exact place_new _ _⟩
  · intro i b p hl hp hm j v hv hu
    rcases live_append hl with ⟨_, hl'⟩ | ⟨rfl, hb⟩
    · have hp' := oldp hl' hp
      obtain ⟨r, h1, h2⟩ := s.cells i b p hl' hp' hm j v hv hu
      exact ⟨r, conc_ext hext v r h1, by rw [hold _ _ (s.blk i b p hl' hp').1]; exact h2⟩
    · cases hb
      rw [newp hp]
      obtain ⟨r, h1, h2⟩ := hc j v hv hu
      exact ⟨r, conc_ext hext v r h1, by simpa [hnew] using h2⟩
  · intro i b p hl hp
    have hsz : w'.heap.size = w.heap.size + 1 := by rw [hheap]; simp
    rcases live_append hl with ⟨_, hl'⟩ | ⟨rfl, hb⟩
    · have := s.blk i b p hl' (oldp hl' hp); exact ⟨by omega, this.2⟩
    · cases hb; rw [newp hp]; exact ⟨by simp; omega, hle⟩
  · intro i b p hl hp hk
    rcases live_append hl with ⟨_, hl'⟩ | ⟨rfl, hb⟩
    · obtain ⟨g1, g2, c2, e2, f2, g3, g4, g5⟩ := s.wr i b p hl' (oldp hl' hp) hk
      have hlt := (s.blk i b p hl' (oldp hl' hp)).1
      exact ⟨g1, g2, c2, e2, f2, by rw [hheap, Array.getElem?_push, if_neg (by omega)]; exact g3, g4, fun j hj => by rw [hfro _ _ hlt]; exact g5 j hj⟩
    · rw [newp hp]
      exact ⟨rfl, hG, rs, e, (0, 0), by rw [hheap]; simp, rfl, fun j _ => hfnew j⟩
  · intro i j bi bj pi pj hne hli hlj hpi hpj hki
    rcases live_append hli with ⟨_, hli'⟩ | ⟨rfl, hbi⟩ <;> rcases live_append hlj with ⟨_, hlj'⟩ | ⟨rfl, hbj⟩
    · exact s.disj i j bi bj pi pj hne hli' hlj' (oldp hli' hpi) (oldp hlj' hpj) hki
    · have := (s.blk i bi pi hli' (oldp hli' hpi)).1
      rw [newp hpj]; simp; omega
    · have := (s.blk j bj pj hlj' (oldp hlj' hpj)).1
      rw [newp hpi]; simp; omega
    · exact absurd rfl hne
  · intro g o v hv hu
    obtain ⟨r, h1, h2⟩ := s.globs g o v hv hu
    refine ⟨r, h1, ?_⟩
    have : g ≠ w.heap.size := fun e' => by rw [e', hG] at hv; simp at hv
    simp only [World.cell?, hheap, Array.getElem?_push] at h2 ⊢
    rw [if_neg this]; exact h2
  · intro g hg; exact s.gsz g (by rw [hheap] at hg; simp at hg; omega)
  · intro i b p r hl hp hk
    rcases live_append hl with ⟨_, hl'⟩ | ⟨rfl, hb⟩
    · obtain ⟨g1, g2, g3⟩ := s.lp i b p r hl' (oldp hl' hp) hk
      have hlt := (s.blk i b p hl' (oldp hl' hp)).1
      exact ⟨g1, by rw [hheap, Array.getElem?_push, if_neg (by omega)]; exact g2, g3.ext hext⟩
    · cases hb
      simp only at hk
      rw [hk] at hkm; cases hkm
  · have htape : w'.tape = w.tape ∧ w'.os = w.os ∧ w'.output = w.output := by rcases hw with rfl | rfl <;> exact ⟨rfl, rfl, rfl⟩
    exact {
      tape := htape.1, os := htape.2.1, output := htape.2.2
      size := by rw [hheap]; simp
      same := fun b hb _ => by rw [hheap, Array.getElem?_push, if_neg (by omega)]
      own := by
        rintro b hb ⟨j, bj, q, hl, hq, hkj, he⟩
        rcases live_append hl with ⟨_, hl'⟩ | ⟨rfl, _⟩
        · exact ⟨j, bj, q, hl', oldp hl' hq, hkj, he⟩
        · rw [newp hq] at he; simp at he; omega
      fresh := fun i b p hi hl hp => by
        rcases live_append hl with ⟨hlt, _⟩ | ⟨rfl, _⟩
        · omega
        · rw [newp hp]; exact .inl (Nat.le_refl _)
      ext := hext
      len := by simp
      dead := fun i hi => by
        have : i < h.length := (List.getElem?_eq_some_iff.1 hi).1
        rw [List.getElem?_append_left this]; exact hi
      unb := fun i _ hi hp => unb_append hi hp
      rle := by simp }
end Go.Vs
namespace Go.Vs
variable {P : Program}
section
def asK : V → Option IntKind | .int k _ => some k | _ => none
def asN : V → Option Int | .int _ n => some n | _ => none
def asB : V → Option Bool | .bool b => some b | _ => none
def asS : V → Option ByteArray | .str s => some s | _ => none
def asG : V → Option (List V) | .agg l => some l | _ => none
def asT : V → Option (List V) | .tup l => some l | _ => none
theorem asKN {v : V} {k : IntKind} {n : Int} (h : asK v = some k) (h' : asN v = some n) : v = .int k n := by
  cases v <;> simp_all [asK, asN]
theorem asN_ex {v : V} {n : Int} (h' : asN v = some n) : ∃ k, v = .int k n := by
  cases v <;> simp_all [asN]
theorem asB_eq {v : V} {b : Bool} (h : asB v = some b) : v = .bool b := by cases v <;> simp_all [asB]
theorem asS_eq {v : V} {b : ByteArray} (h : asS v = some b) : v = .str b := by cases v <;> simp_all [asS]
theorem asG_eq {v : V} {l : List V} (h : asG v = some l) : v = .agg l := by cases v <;> simp_all [asG]
theorem asT_eq {v : V} {l : List V} (h : asT v = some l) : v = .tup l := by cases v <;> simp_all [asT]
def kn (v : V) : Option V := if v.known = true then some v else none
theorem kn_some {v u : V} (h : kn v = some u) : u = v ∧ v ≠ .unk := by
  unfold kn at h
  split at h
  · rename_i hk
    simp only [Option.some.injEq] at h
    exact ⟨h.symm, fun e => by subst e; simp [V.known] at hk⟩
  · cases h
inductive EqK where
  | i | b | s
inductive POp where
  | mov (x : A)
  | pick (c a b : A)
  | bld (z : List V) (ps : List (Nat × Nat × A))
  | nck (x : A)
  | bin (op : BinOp) (x y : A)
  | eq (neg : Bool) (k : EqK) (x y : A)
  | eqn (neg : Bool) (n : Nat) (x y : A)
  | eqa (neg : Bool) (ks : List EqK) (x y : A)
  | un (op : UnOp) (x : A)
  | cvi (k : IntKind) (x : A)
  | mkI (t : TypeId) (x : A)
  | mkF (f : Fn) (a c : List A)
  | sle (s : Nat) (x : A) (lo hi mx : Option A)
  | slt (x : A) (lo hi : Option A)
  | sla (n s : Nat) (x : A) (lo hi mx : Option A)
  | fda (off : Nat) (x : A)
  | fld (off n : Nat) (agg : Bool) (x : A)
  | ixa (len s : Nat) (x i : A)
  | ixs (s : Nat) (x i : A)
  | ixv (len s n : Nat) (agg : Bool) (x i : A)
  | ixt (x i : A)
  | ext (x : A) (i : Nat)
  | len (str : Bool) (x : A)
  | lena (n : Nat)
def evs (tm : List V) : List A → Option (List V)
  | [] => some []
  | a :: r => match kn (ev tm a), evs tm r with
    | some v, some l => some (v :: l)
    | _, _ => none
def fillV (cells : List V) (tm : List V) : List (Nat × Nat × A) → Option (List V)
  | [] => some cells
  | (off, size, a) :: r => match kn (ev tm a) with
    | some v => if (cellsOf v).length = size ∧ off + size ≤ cells.length then fillV (splice cells off (cellsOf v)) tm r else none
    | none => none
def binI (op : BinOp) (k : IntKind) (a : Int) (k' : IntKind) (b : Int) : Option V :=
  match op with
  | .shl => if 0 ≤ b then some (.int k (k.wrap (a * 2 ^ min b.toNat k.bits))) else none
  | .shr => if 0 ≤ b then some (.int k (a.fdiv (2 ^ min b.toNat k.bits))) else none
  | .add => if k = k' then some (.int k (k.wrap (a + b))) else none
  | .sub => if k = k' then some (.int k (k.wrap (a - b))) else none
  | .mul => if k = k' then some (.int k (k.wrap (a * b))) else none
  | .quo => if k = k' ∧ b ≠ 0 then some (.int k (k.wrap (a.tdiv b))) else none
  | .rem => if k = k' ∧ b ≠ 0 then some (.int k (a.tmod b)) else none
  | .and => if k = k' then some (.int k (bits .and k a b)) else none
  | .or => if k = k' then some (.int k (bits .or k a b)) else none
  | .xor => if k = k' then some (.int k (bits .xor k a b)) else none
  | .andNot => if k = k' then some (.int k (bits .andNot k a b)) else none
  | .lss => if k = k' then some (.bool (decide (a < b))) else none
  | .leq => if k = k' then some (.bool (decide (a ≤ b))) else none
  | .gtr => if k = k' then some (.bool (decide (a > b))) else none
  | .geq => if k = k' then some (.bool (decide (a ≥ b))) else none
  | _ => none
def isNil : V → Option Bool
  | .nilp | .nils | .nilf | .nili => some true
  | .ptr .. | .glob .. | .sl .. | .fn .. | .ifc .. => some false
  | _ => none
def nilKind : V → Option Nat
  | .nilp | .ptr .. | .glob .. => some 0
  | .nils | .sl .. => some 1
  | .nilf | .fn .. => some 2
  | .nili | .ifc .. => some 3
  | _ => none
def eqV (k : EqK) (x y : V) : Option Bool :=
  match k with
  | .i => match asK x, asK y, asN x, asN y with
    | some k, some k', some a, some b => if k = k' then some (a == b) else none
    | _, _, _, _ => none
  | .b => match asB x, asB y with
    | some a, some b => some (a == b)
    | _, _ => none
  | .s => match asS x, asS y with
    | some a, some b => some (a == b)
    | _, _ => none
def eqL : List EqK → List V → List V → Option Bool
  | [], [], [] => some true
  | k :: ks, x :: xs, y :: ys => match eqV k x y, eqL ks xs ys with
    | some a, some b => some (a && b)
    | _, _ => none
  | _, _, _ => none
def optA (tm : List V) (d : Int) : Option A → Option Int
  | none => some d
  | some a => asN (ev tm a)
def sliceAtV (mk : Nat → Nat → Nat → V) (s cap : Nat) (l h m : Int) : Option V :=
  if 0 ≤ m ∧ m ≤ cap ∧ 0 ≤ h ∧ h ≤ m ∧ 0 ≤ l ∧ l ≤ h then
    some (mk (if l = 0 then 0 else if m = l then 0 else l.toNat * s) (h - l).toNat (m - l).toNat)
  else none
def lenO : V → Option Nat
  | .nils => some 0
  | .sl _ _ n _ => some n
  | _ => none
def expo (tm : List V) : POp → Option V
  | .mov x => kn (ev tm x)
  | .pick c a b => match asB (ev tm c) with
    | some t => kn (if t = true then ev tm a else ev tm b)
    | none => none
  | .bld z ps => (fillV z tm ps).map .agg
  | .nck x => match isNil (ev tm x) with
    | some false => match ev tm x with
      | .fn (.func f) a c => some (.fn (.func f) a c)
      | .fn .. => none
      | v => some v
    | _ => none
  | .bin op x y => match asK (ev tm x), asN (ev tm x), asK (ev tm y), asN (ev tm y) with
    | some k, some a, some k', some b => binI op k a k' b
    | _, _, _, _ => none
  | .eq neg k x y => (eqV k (ev tm x) (ev tm y)).map fun r => .bool (if neg = true then !r else r)
  | .eqn neg n x y => match nilKind (ev tm x), nilKind (ev tm y), isNil (ev tm x), isNil (ev tm y) with
    | some a, some b, some p, some q => if a = n ∧ b = n ∧ (p = true ∨ q = true) ∧ (n = 3 → ¬ (p = true ∧ q = true)) then some (.bool (if neg = true then !(p && q) else (p && q))) else none
    | _, _, _, _ => none
  | .eqa neg ks x y => match asG (ev tm x), asG (ev tm y) with
    | some a, some b => (eqL ks a b).map fun r => .bool (if neg = true then !r else r)
    | _, _ => none
  | .un op x => match op with
    | .neg => match asK (ev tm x), asN (ev tm x) with
      | some k, some a => some (.int k (k.wrap (0 - a)))
      | _, _ => none
    | .xor => match asK (ev tm x), asN (ev tm x) with
      | some k, some a => some (.int k (bits .xor k (if k.signed then -1 else k.max) a))
      | _, _ => none
    | .not => (asB (ev tm x)).map fun b => .bool !b
    | _ => none
  | .cvi k x => (asN (ev tm x)).map fun n => .int k (k.wrap n)
  | .mkI t x => (kn (ev tm x)).map (.ifc t)
  | .mkF f a c => match evs tm a, evs tm c with
    | some x, some y => some (.fn f x y)
    | _, _ => none
  | .sle s x lo hi mx => match ev tm x with
    | .sl i o len (.exact cap) => match optA tm 0 lo, optA tm len hi, optA tm cap mx with
      | some l, some h, some m => if hi.isSome = true ∨ mx.isSome = false then sliceAtV (fun d n c => .sl i (o + d) n (.exact c)) s cap l h m else none
      | _, _, _ => none
    | .nils => match optA tm 0 lo, optA tm 0 hi, optA tm 0 mx with
      | some l, some h, some m => if (hi.isSome = true ∨ mx.isSome = false) ∧ l = 0 ∧ h = 0 ∧ m = 0 then some .nils else none
      | _, _, _ => none
    | _ => none
  | .slt x lo hi => match asS (ev tm x) with
    | some b => match optA tm 0 lo, optA tm b.size hi with
      | some l, some h => if 0 ≤ l ∧ l ≤ h ∧ h ≤ b.size then some (.str (b.extract l.toNat h.toNat)) else none
      | _, _ => none
    | none => none
  | .sla n s x lo hi mx => match ev tm x with
    | .ptr i o => match optA tm 0 lo, optA tm n hi, optA tm n mx with
      | some l, some h, some m => if hi.isSome = true ∨ mx.isSome = false then sliceAtV (fun d k c => .sl i (o + d) k (.exact c)) s n l h m else none
      | _, _, _ => none
    | _ => none
  | .fda off x => match ev tm x with
    | .ptr i o => some (.ptr i (o + off))
    | .glob g o => some (.glob g (o + off))
    | _ => none
  | .fld off n agg x => match asG (ev tm x) with
    | some l => if off + n ≤ l.length then (if agg = true then some (.agg ((l.drop off).take n)) else match l[off]? with | some v => kn v | none => none) else none
    | none => none
  | .ixa len s x i => match asN (ev tm i) with
    | some j => if 0 ≤ j ∧ j < len then (match ev tm x with
      | .ptr b o => some (.ptr b (o + j.toNat * s))
      | .glob g o => some (.glob g (o + j.toNat * s))
      | _ => none) else none
    | none => none
  | .ixs s x i => match asN (ev tm i) with
    | some j => (match ev tm x with
      | .sl b o len _ => if 0 ≤ j ∧ j < len then some (.ptr b (o + j.toNat * s)) else none
      | _ => none)
    | none => none
  | .ixv len s n agg x i => match asN (ev tm i), asG (ev tm x) with
    | some j, some l => if 0 ≤ j ∧ j < len ∧ j.toNat * s + n ≤ l.length then (if agg = true then some (.agg ((l.drop (j.toNat * s)).take n)) else match l[j.toNat * s]? with | some v => kn v | none => none) else none
    | _, _ => none
  | .ixt x i => match asN (ev tm i), asS (ev tm x) with
    | some j, some b => if 0 ≤ j then (match b[j.toNat]? with | some c => some (.int .u8 (c.toNat : Int)) | none => none) else none
    | _, _ => none
  | .ext x i => match asT (ev tm x) with
    | some l => match l[i]? with | some v => kn v | none => none
    | none => none
  | .len str x => if str = true then (asS (ev tm x)).map fun s => .int .i64 (s.size : Int) else (lenO (ev tm x)).map fun (n : Nat) => V.int .i64 (n : Int)
  | .lena n => some (.int .i64 (n : Int))
end
section
def aggT (P : Program) (t : TypeId) : Option Bool := match P.underlying t with
  | some (.struct _) | some (.array _ _) => some true
  | some _ => some false
  | none => none
def isz (P : Program) (t : TypeId) : Option Nat := (P.info? t).map (·.size)
def zer (P : Program) (t : TypeId) : Option (List V) := (P.info? t).bind fun i => i.zero.bind fun z => ofCells z.cells.toList
def cOpt : Option Operand → Option (Option A)
  | none => some none
  | some x => (cA x).map some
def flatK (P : Program) : Nat → TypeId → Option (List EqK)
  | 0, _ => none
  | d + 1, t => match P.underlying t with
    | some .bool => some [.b]
    | some (.int _) => some [.i]
    | some .string => some [.s]
    | some (.array n e) => match flatK P d e with
      | some ks => if (P.info? e).isSome = true ∧ ks.length = P.cellsOf e then some (List.replicate n ks).flatten else none
      | none => none
    | some (.struct fs) => if P.stoodInHeld t = false then flatFs (flatK P d) P 0 fs.toList else none
    | _ => none
  where
  flatFs (f : TypeId → Option (List EqK)) (P : Program) : Nat → List Field → Option (List EqK)
    | _, [] => some []
    | off, g :: r => match f g.type with
      | some ks => if g.name ≠ "_" ∧ g.offset = off ∧ (P.info? g.type).isSome = true ∧ ks.length = P.cellsOf g.type then (flatFs f P (off + ks.length) r).map (ks ++ ·) else none
      | none => none
def cEq (P : Program) (neg : Bool) (t : TypeId) (x y : A) : Option POp :=
  match P.underlying t with
  | some (.int _) => some (.eq neg .i x y)
  | some .bool => some (.eq neg .b x y)
  | some .string => some (.eq neg .s x y)
  | some (.pointer _) => some (.eqn neg 0 x y)
  | some (.slice _) => some (.eqn neg 1 x y)
  | some (.func _ _ _) => some (.eqn neg 2 x y)
  | some (.interface _) => some (.eqn neg 3 x y)
  | some (.array _ _) | some (.struct _) => if P.eqGuardType P.depth t = false then (flatK P 20 t).map fun ks => .eqa neg ks x y else none
  | _ => none
def cParts (pl : Nat → Option (Nat × Nat)) : List (Nat × Operand) → Option (List (Nat × Nat × A))
  | [] => some []
  | (i, x) :: r => match pl i, cA x, cParts pl r with
    | some (off, size), some a, some l => some ((off, size, a) :: l)
    | _, _, _ => none
def places (P : Program) (t : TypeId) : Option (Nat → Option (Nat × Nat)) :=
  match P.underlying t with
  | some (.array _ e) => (P.info? e).map fun ie => fun i => some (i * ie.size, ie.size)
  | some (.struct fields) => (fields.toList.mapM (fun f => (P.info? f.type).map fun i => (f.offset, i.size))).map fun l => fun i => l.toArray[i]?
  | _ => none
def arr (P : Program) (t : TypeId) : Option (Nat × Nat) := match P.underlying t with
  | some (.array n e) => (isz P e).map fun s => (n, s)
  | _ => none
def slE (P : Program) (t : TypeId) : Option Nat := match P.underlying t with
  | some (.slice e) => isz P e
  | _ => none
def cP (P : Program) : Op → Option POp
  | .move x => (cA x).map .mov
  | .assign x => (cA x).map .mov
  | .pick c a b => (cA c).bind fun c => (cA a).bind fun a => (cA b).map fun b => .pick c a b
  | .build t ps => (zer P t).bind fun z => (places P t).bind fun pl => (cParts pl ps.toList).map fun l => .bld z l
  | .nilCheck x => (cA x).map .nck
  | .binOp op t x y _ => (cA x).bind fun x => (cA y).bind fun y => match op with
    | .eql => cEq P false t x y
    | .neq => cEq P true t x y
    | op => some (.bin op x y)
  | .unOp op _ x => (cA x).map (.un op)
  | .convert s d x => match P.underlying s, P.underlying d with
    | some (.int _), some (.int k) => (cA x).map (.cvi k)
    | _, _ => none
  | .makeInterface t x => if P.concrete t = true then (cA x).map (.mkI t) else none
  | .makeFunc f a c => (cAs a.toList).bind fun a => (cAs c.toList).map fun c => .mkF f a c
  | .slice t x lo hi mx => (cA x).bind fun x => (cOpt lo).bind fun lo => (cOpt hi).bind fun hi => (cOpt mx).bind fun mx => match P.underlying t with
    | some .string => if mx.isSome = true then none else some (.slt x lo hi)
    | some (.slice e) => (isz P e).map fun s => .sle s x lo hi mx
    | some (.array n e) => (isz P e).map fun s => .sla n s x lo hi mx
    | _ => none
  | .fieldAddr s x f => match P.underlying s with
    | some (.struct fs) => match fs[f]? with
      | some g => match isz P g.type with
        | some n => if n ≠ 0 then (cA x).map (.fda g.offset) else none
        | none => none
      | none => none
    | _ => none
  | .field t x f => match P.underlying t with
    | some (.struct fs) => match fs[f]? with
      | some g => (aggT P g.type).bind fun agg => (isz P g.type).bind fun n => if agg = true ∨ n = 1 then (cA x).map (.fld g.offset n agg) else none
      | none => none
    | _ => none
  | .indexAddr t x i => (cA x).bind fun x => (cA i).bind fun i => match arr P t with
    | some (n, s) => some (.ixa n s x i)
    | none => match slE P t with
      | some s => some (.ixs s x i)
      | none => none
  | .index t x i => (cA x).bind fun x => (cA i).bind fun i => match P.underlying t with
    | some (.array n e) => (aggT P e).bind fun agg => (isz P e).bind fun s => if agg = true ∨ s = 1 then some (.ixv n s s agg x i) else none
    | some .string => some (.ixt x i)
    | _ => none
  | .extract x i => (cA x).map fun x => .ext x i
  | .call ⟨.builtin .len, args, ts⟩ => match args.toList, ts.toList with
    | [x], [t] => match P.underlying t with
      | some (.slice _) => (cA x).map (.len false)
      | some .string => (cA x).map (.len true)
      | some (.array n _) => some (.lena n)
      | _ => none
    | _, _ => none
  | _ => none
end
end Go.Vs
namespace Go.Vs
variable {P : Program} {ρ : Rho} {tm : List V} {re : Operand → Value}
section
theorem opK (he : EvRel ρ tm re) {x : Operand} {a : A} (hx : cA x = some a) {v : V} (hk : kn (ev tm a) = some v) : conc ρ v = some (re x) := by
  obtain ⟨rfl, hu⟩ := kn_some hk
  exact he x a hx _ rfl hu
theorem opI (he : EvRel ρ tm re) {x : Operand} {a : A} (hx : cA x = some a) {n : Int} (hn : asN (ev tm a) = some n) : ∃ k, re x = .int k n ∧ ev tm a = .int k n := by
  obtain ⟨k, hk⟩ := asN_ex hn
  have := he x a hx _ hk (by simp)
  simp only [conc, Option.some.injEq] at this
  exact ⟨k, this.symm, hk⟩
theorem opKN (he : EvRel ρ tm re) {x : Operand} {a : A} (hx : cA x = some a) {k : IntKind} {n : Int} (hk : asK (ev tm a) = some k) (hn : asN (ev tm a) = some n) : re x = .int k n := by
  have := he x a hx _ (asKN hk hn) (by simp)
  simpa [conc] using this.symm
theorem opB (he : EvRel ρ tm re) {x : Operand} {a : A} (hx : cA x = some a) {b : Bool} (hb : asB (ev tm a) = some b) : re x = .bool b := by
  have := he x a hx _ (asB_eq hb) (by simp)
  simpa [conc] using this.symm
theorem opS (he : EvRel ρ tm re) {x : Operand} {a : A} (hx : cA x = some a) {b : ByteArray} (hb : asS (ev tm a) = some b) : re x = .string b := by
  have := he x a hx _ (asS_eq hb) (by simp)
  simpa [conc] using this.symm
theorem opG (he : EvRel ρ tm re) {x : Operand} {a : A} (hx : cA x = some a) {l : List V} (hb : asG (ev tm a) = some l) : ∃ r, concs ρ l = some r ∧ re x = .agg r.toArray := by
  have := he x a hx _ (asG_eq hb) (by simp)
  simp only [conc, Option.map_eq_some_iff] at this
  obtain ⟨r, h1, h2⟩ := this
  exact ⟨r, h1, h2.symm⟩
theorem opT (he : EvRel ρ tm re) {x : Operand} {a : A} (hx : cA x = some a) {l : List V} (hb : asT (ev tm a) = some l) : ∃ r, concs ρ l = some r ∧ re x = .tuple r.toArray := by
  have := he x a hx _ (asT_eq hb) (by simp)
  simp only [conc, Option.map_eq_some_iff] at this
  obtain ⟨r, h1, h2⟩ := this
  exact ⟨r, h1, h2.symm⟩
theorem opAs (he : EvRel ρ tm re) : ∀ {xs : List Operand} {as : List A}, cAs xs = some as → ∀ {l : List V}, evs tm as = some l → concs ρ l = some (xs.map re)
  | [], _, h, _, e => by
    simp only [cAs, Option.some.injEq] at h; subst h
    simp only [evs, Option.some.injEq] at e; subst e; rfl
  | x :: xs, _, h, _, e => by
    simp only [cAs, Option.bind_eq_some_iff, Option.map_eq_some_iff] at h
    obtain ⟨a, ha, as, has, rfl⟩ := h
    simp only [evs] at e
    split at e
    · rename_i v l hv hl
      simp only [Option.some.injEq] at e; subst e
      exact concs_cons.2 ⟨re x, xs.map re, opK he ha hv, opAs he has hl, rfl⟩
    · cases e
theorem binI_sound (op : BinOp) (k : IntKind) (a : Int) (k' : IntKind) (b : Int) (v : V) (h : binI op k a k' b = some v) (w : World) :
    ∃ r, (binOp op 0 (.int k a) (.int k' b)).run P w = .ok r w ∧ conc ρ v = some r := by
  cases op <;> simp only [binI] at h <;> try (cases h; done)
  case shl => split at h <;> cases h; rename_i h0; exact ⟨_, by simp [binOp, Op.shift, show ¬ b < 0 by omega], rfl⟩
  case shr => split at h <;> cases h; rename_i h0; exact ⟨_, by simp [binOp, Op.shift, show ¬ b < 0 by omega], rfl⟩
  case quo => split at h <;> cases h; rename_i h0; obtain ⟨rfl, h1⟩ := h0; exact ⟨_, by simp [binOp, Op.intDiv, h1], rfl⟩
  case rem => split at h <;> cases h; rename_i h0; obtain ⟨rfl, h1⟩ := h0; exact ⟨_, by simp [binOp, Op.intDiv, h1], rfl⟩
  all_goals
    (split at h <;> cases h; rename_i h0; subst h0
     exact ⟨_, by simp [binOp, Op.intArith, Op.intCmp, Op.intBits, bits], rfl⟩)
theorem binOp_type (op : BinOp) (t : TypeId) (k k' : IntKind) (a b : Int) (h1 : op ≠ .eql) (h2 : op ≠ .neq) (w : World) : (binOp op t (.int k a) (.int k' b)).run P w = (binOp op 0 (.int k a) (.int k' b)).run P w := by
  cases op <;> simp_all [binOp]
theorem eqGuard_run (op : BinOp) (t : TypeId) (x y : Operand) (k k' : IntKind) (a b : Int) (w : World) : (eqGuard op t x y (.int k a) (.int k' b)).run P w = .ok () w := by
  rw [eqGuard_at_int]; rfl
theorem fill_sound (he : EvRel ρ tm re) {pl : Nat → Option (Nat × Nat)} : ∀ (ps : List (Nat × Operand)) (l : List (Nat × Nat × A)), cParts pl ps = some l →
    ∀ (cells : List V) (C : Array Value), concs ρ cells = some C.toList → ∀ out, fillV cells tm l = some out →
      ∃ D, Instr.fill pl C (ps.map fun p => (p.1, re p.2)) = some D ∧ concs ρ out = some D.toList
  | [], l, h, cells, C, hC, out, ho => by
    simp only [cParts, Option.some.injEq] at h; subst h
    simp only [fillV, Option.some.injEq] at ho; subst ho
    exact ⟨C, rfl, hC⟩
  | (i, x) :: ps, l, h, cells, C, hC, out, ho => by
    simp only [cParts] at h
    split at h
    case h_2 => cases h
    rename_i off size a l' h1 h2 h3
    simp only [Option.some.injEq] at h; subst h
    simp only [fillV] at ho
    split at ho
    case h_2 => cases ho
    rename_i v hv
    split at ho
    case isFalse => cases ho
    rename_i hfit
    obtain ⟨hs, hle⟩ := hfit
    have hcv := opK he h2 hv
    have hcells := cells_conc hcv
    have hlen := concs_length hcells
    have hClen := concs_length hC
    simp only [List.map_cons, Instr.fill, h1]
    have hsz : (re x).cells.size = size := by rw [← hs, ← hlen]; simp
    rw [if_neg (by simp [hsz]; have : C.size = cells.length := by simpa using hClen
                   omega)]
    refine fill_sound he ps l' h3 (splice cells off (cellsOf v)) _ ?_ out ho
    -- the cells are laid one by one
    have hfold : ∀ (m : Nat), m ≤ size → ∀ (j : Nat), (((re x).cells.toList.take m).zipIdx.foldl (fun (cs : Array Value) (p : Value × Nat) => cs.setIfInBounds (off + p.2) p.1) C)[j]? =
        if off ≤ j ∧ j < off + m then (re x).cells[j - off]? else C[j]? := by
      intro m
      induction m with
      | zero => intro _ j; simp; intro h; omega
      | succ m ih =>
        intro hm j
        have hmlt : m < (re x).cells.toList.length := by simp; omega
        rw [List.take_succ_eq_append_getElem hmlt, List.zipIdx_append, List.foldl_append]
        have hsz' : ∀ (l : List (Value × Nat)) (D : Array Value), (l.foldl (fun (cs : Array Value) (p : Value × Nat) => cs.setIfInBounds (off + p.2) p.1) D).size = D.size := by
          intro l
          induction l with
          | nil => intro D; rfl
          | cons p l ih => intro D; simp [ih]
        have htl : ((re x).cells.toList.take m).length = m := by simp; omega
        simp only [List.zipIdx_cons, List.zipIdx_nil, List.foldl_cons, List.foldl_nil, htl, Nat.zero_add]
        rw [Array.getElem?_setIfInBounds]
        by_cases hj : off + m = j
        · subst hj
          have hb : off + m < C.size := by have : C.size = cells.length := by simpa using hClen
                                           omega
          have hlt2 : m < (re x).cells.size := by omega
          simp [hsz', hb, hlt2]
        · rw [if_neg hj, ih (by omega) j]
          by_cases hj2 : off ≤ j ∧ j < off + m
          · rw [if_pos hj2, if_pos ⟨hj2.1, by omega⟩]
          · rw [if_neg hj2, if_neg (by omega)]
    have hsize : ∀ (l : List (Value × Nat)) (D : Array Value), (l.foldl (fun (cs : Array Value) (p : Value × Nat) => cs.setIfInBounds (off + p.2) p.1) D).size = D.size := by
      intro l
      induction l with
      | nil => intro D; rfl
      | cons p l ih => intro D; simp [ih]
    have hz : Array.foldl (fun (cs : Array Value) (p : Value × Nat) => match p with | (c, j) => cs.setIfInBounds (off + j) c) C (re x).cells.zipIdx =
        (((re x).cells.toList.take size).zipIdx.foldl (fun (cs : Array Value) (p : Value × Nat) => cs.setIfInBounds (off + p.2) p.1) C) := by
      rw [← Array.foldl_toList, Array.toList_zipIdx, List.take_of_length_le (by simp; omega)]
    refine concs_of_get ?_ ?_
    · have h1 := hsize (((re x).cells.toList.take size).zipIdx) C
      rw [splice_length (by omega), hz]
      rw [Array.length_toList, h1]; simpa using hClen
    · intro j u hu
      rw [hz, Array.getElem?_toList, hfold size (Nat.le_refl _) j]
      by_cases hj : off ≤ j ∧ j < off + size
      · obtain ⟨m, rfl⟩ := Nat.exists_eq_add_of_le hj.1
        rw [splice_in (by omega) (by omega)] at hu
        obtain ⟨y, hy1, hy2⟩ := concs_get hcells m u hu
        exact ⟨y, hy1, by rw [if_pos hj]; simpa using hy2⟩
      · rw [splice_out (by omega) (by omega)] at hu
        obtain ⟨y, hy1, hy2⟩ := concs_get hC j u hu
        exact ⟨y, hy1, by rw [if_neg hj]; simpa using hy2⟩
theorem zer_spec {t : TypeId} {z : List V} (h : zer P t = some z) : ∃ i zv, P.info? t = some i ∧ i.zero = some zv ∧ ∀ ρ, concs ρ z = some zv.cells.toList := by
  simp only [zer, Option.bind_eq_some_iff] at h
  obtain ⟨i, hi, zv, hz, hc⟩ := h
  exact ⟨i, zv, hi, hz, fun ρ => concs_ofCells ρ _ _ hc⟩
theorem isz_spec {t : TypeId} {n : Nat} (h : isz P t = some n) (w : World) : (sizeOf t).run P w = .ok n w := by
  simp only [isz, Option.map_eq_some_iff] at h
  obtain ⟨i, hi, rfl⟩ := h
  simp [sizeOf, typeInfo, hi]
theorem aggT_spec {t : TypeId} {b : Bool} (h : aggT P t = some b) (w : World) : (isAgg t).run P w = .ok b w := by
  unfold aggT at h
  split at h
  · rename_i fs hu; simp only [Option.some.injEq] at h; subst h; simp [isAgg, run_underlying hu]
  · rename_i n e hu; simp only [Option.some.injEq] at h; subst h; simp [isAgg, run_underlying hu]
  · rename_i d h1 h2 hu
    simp only [Option.some.injEq] at h; subst h
    simp only [isAgg, Sem.run_bind, run_underlying hu, Result.andThen_ok]
    rfl
  · cases h
theorem part_sound {t : TypeId} {agg : Bool} {n : Nat} (h1 : aggT P t = some agg) (h2 : isz P t = some n) {l : List V} {r : List Value} (hr : concs ρ l = some r) {off : Nat} {v : V}
    (hv : (if agg = true then some (.agg ((l.drop off).take n)) else match l[off]? with | some v => kn v | none => none) = some v) (w : World) :
    ∃ x, (part t r.toArray off).run P w = .ok x w ∧ conc ρ v = some x := by
  simp only [part, Sem.run_bind, aggT_spec h1, Result.andThen_ok, Sem.run_ite]
  cases agg with
  | true =>
    simp only [if_true, Option.some.injEq] at hv ⊢
    subst hv
    simp only [isz_spec h2, Result.andThen_ok, Sem.run_pure]
    refine ⟨_, rfl, ?_⟩
    simp only [conc, concs_take n (concs_drop off hr), Option.map_some]
    congr 2
    simp [List.extract]
  | false =>
    simp only [Bool.false_eq_true, if_false] at hv ⊢
    split at hv
    · rename_i u hu
      obtain ⟨rfl, hne⟩ := kn_some hv
      obtain ⟨x, hx, hx'⟩ := concs_get hr off _ hu
      refine ⟨x, ?_, hx⟩
      simp [hx']
    · cases hv
theorem places_build {t : TypeId} {pl : Nat → Option (Nat × Nat)} (hp : places P t = some pl) (ps : Array (Nat × Value)) {D : Array Value}
    {zv : Value} {i : TypeInfo} (hi : P.info? t = some i) (hzv : i.zero = some zv) (hD : Instr.fill pl zv.cells ps.toList = some D) (w : World) : (Instr.build t ps).run P w = .ok (.agg D) w := by
  refine run_build w t ps D ?_
  unfold Program.built
  unfold places at hp
  split at hp
  · rename_i n e hu
    simp only [Option.map_eq_some_iff] at hp
    obtain ⟨ie, hie, rfl⟩ := hp
    simp [hi, hu, hzv, hie, hD]
  · rename_i fs hu
    simp only [Option.map_eq_some_iff] at hp
    obtain ⟨l, hl, rfl⟩ := hp
    simp [hi, hu, hzv, hl]
    simpa using hD
  · cases hp
def EqT (P : Program) (k : EqK) (t : TypeId) : Prop := match k with | .i => ∃ q, P.underlying t = some (.int q) | .b => P.underlying t = some .bool | .s => P.underlying t = some .string
theorem eqV_sound {k : EqK} {x y : V} {b : Bool} (h : eqV k x y = some b) {t : TypeId}
    (ht : EqT P k t)
    {X Y : Value} (hx : conc ρ x = some X) (hy : conc ρ y = some Y) (d : Nat) (w : World) : (Op.equalIn (d + 1) t X Y).run P w = .ok b w := by
  cases k
  · simp only [eqV] at h
    split at h
    · rename_i k k' a b h1 h2 h3 h4
      split at h
      · rename_i e; subst e
        simp only [Option.some.injEq] at h; subst h
        rw [asKN h1 h3] at hx; rw [asKN h2 h4] at hy
        simp only [conc, Option.some.injEq] at hx hy
        subst hx; subst hy
        obtain ⟨q, hq⟩ := ht
        exact run_equalIn_int w d t k q a b hq
      · cases h
    · cases h
  · simp only [eqV] at h
    split at h
    · rename_i a b h1 h2
      simp only [Option.some.injEq] at h; subst h
      rw [asB_eq h1] at hx; rw [asB_eq h2] at hy
      simp only [conc, Option.some.injEq] at hx hy
      subst hx; subst hy
      exact run_equalIn_bool w d t a b ht
    · cases h
  · simp only [eqV] at h
    split at h
    · rename_i a b h1 h2
      simp only [Option.some.injEq] at h; subst h
      rw [asS_eq h1] at hx; rw [asS_eq h2] at hy
      simp only [conc, Option.some.injEq] at hx hy
      subst hx; subst hy
      rw [beq_toListBytes]
      exact run_equalIn_string w d t a b ht
    · cases h
def ofT (agg : Bool) (l : List Value) : Value := if agg = true then .agg l.toArray else l.headD undef
theorem eqL_split {ks ls : List EqK} : ∀ {xs ys : List V} {b : Bool}, eqL (ks ++ ls) xs ys = some b →
    ∃ b1 b2, eqL ks (xs.take ks.length) (ys.take ks.length) = some b1 ∧ eqL ls (xs.drop ks.length) (ys.drop ks.length) = some b2 ∧ b = (b1 && b2) := by
  induction ks with
  | nil => intro xs ys b h; exact ⟨true, b, by simp [eqL], by simpa using h, by simp⟩
  | cons k ks ih =>
    intro xs ys b h
    cases xs with
    | nil => cases ys <;> simp [eqL] at h
    | cons x xs =>
      cases ys with
      | nil => simp [eqL] at h
      | cons y ys =>
        simp only [List.cons_append, eqL] at h
        split at h
        · rename_i a c h1 h2
          simp only [Option.some.injEq] at h; subst h
          obtain ⟨b1, b2, e1, e2, rfl⟩ := ih h2
          exact ⟨a && b1, b2, by simp [eqL, h1, e1], by simpa using e2, by rw [Bool.and_assoc]⟩
        · cases h
theorem eqL_len {ks : List EqK} : ∀ {xs ys : List V} {b : Bool}, eqL ks xs ys = some b → xs.length = ks.length ∧ ys.length = ks.length := by
  induction ks with
  | nil => intro xs ys b h; cases xs <;> cases ys <;> simp [eqL] at h <;> exact ⟨rfl, rfl⟩
  | cons k ks ih =>
    intro xs ys b h
    cases xs <;> cases ys <;> simp only [eqL] at h <;> try (cases h; done)
    split at h
    · rename_i h2
      have := ih h2
      simp; exact this
    · cases h
theorem eqL_nil {xs ys : List V} {b : Bool} (h : eqL [] xs ys = some b) : b = true := by
  cases xs <;> cases ys <;> simp_all [eqL]
def FlatOk (P : Program) (d : Nat) (t : TypeId) (ks : List EqK) : Prop :=
  ∃ agg, aggT P t = some agg ∧ (agg = true ∨ ks.length = 1) ∧ ∀ (dd : Nat) (ρ : Rho) (xs ys : List V) (X Y : List Value) (b : Bool), eqL ks xs ys = some b → concs ρ xs = some X → concs ρ ys = some Y → ∀ w,
    (Op.equalIn (dd + d) t (ofT agg X) (ofT agg Y)).run P w = .ok b w
theorem part_ofT {e : TypeId} {agg : Bool} (ha : aggT P e = some agg) (hi : (P.info? e).isSome = true) (h1 : agg = true ∨ P.cellsOf e = 1) (X : List Value) (off : Nat) (hfit : off + P.cellsOf e ≤ X.length) (w : World) :
    (part e X.toArray off).run P w = .ok (ofT agg ((X.drop off).take (P.cellsOf e))) w := by
  obtain ⟨i, hi⟩ := Option.isSome_iff_exists.1 hi
  simp only [part, Sem.run_bind, aggT_spec ha, Result.andThen_ok, Sem.run_ite, run_sizeOf w hi]
  cases agg with
  | true => simp [ofT, List.extract]
  | false =>
    have hc : P.cellsOf e = 1 := by rcases h1 with h1 | h1 <;> simp_all
    have hlt : off < X.length := by omega
    have e : ofT false ((X.drop off).take 1) = X[off] := by rw [List.drop_eq_getElem_cons hlt]; rfl
    rw [hc, e]
    simp [hlt]
theorem eqItems_flat {d : Nat} {e : TypeId} {ks : List EqK} (ih : FlatOk P d e ks) (hi : (P.info? e).isSome = true) (hk : ks.length = P.cellsOf e) (dd : Nat) (ρ : Rho) (xs ys : List V) (X Y : List Value) (hX : concs ρ xs = some X) (hY : concs ρ ys = some Y) (w : World) :
    ∀ (m j : Nat) (b : Bool), eqL (List.replicate m ks).flatten (xs.drop (j * ks.length)) (ys.drop (j * ks.length)) = some b → j * ks.length ≤ X.length → j * ks.length ≤ Y.length →
      (Op.eqItems (dd + d) e (P.cellsOf e) X.toArray Y.toArray (List.range' j m)).run P w = .ok b w
  | 0, j, b, h, _, _ => by
    simp only [List.replicate_zero, List.flatten_nil] at h
    have : b = true := eqL_nil h
    subst this
    simp [Op.eqItems]
  | m + 1, j, b, h, hxl, hyl => by
    obtain ⟨agg, ha, hag, hmain⟩ := ih
    rw [List.replicate_succ, List.flatten_cons] at h
    obtain ⟨b1, b2, e1, e2, rfl⟩ := eqL_split h
    have l1 := eqL_len e1
    have lX := concs_length hX
    have lY := concs_length hY
    simp only [List.length_take, List.length_drop] at l1
    have p1 := part_ofT ha hi (by rw [← hk]; exact hag) X (j * ks.length) (by rw [← hk]; omega) w
    have p2 := part_ofT ha hi (by rw [← hk]; exact hag) Y (j * ks.length) (by rw [← hk]; omega) w
    have p3 := hmain dd ρ _ _ _ _ b1 e1 (concs_take _ (concs_drop _ hX)) (concs_take _ (concs_drop _ hY)) w
    rw [List.range'_succ, Op.eqItems]
    simp only [Sem.run_bind, ← hk] at p1 p2 ⊢
    rw [p1, Result.andThen_ok, p2, Result.andThen_ok, p3, Result.andThen_ok]
    cases b1 with
    | false => simp
    | true =>
      simp only [Bool.not_true, Bool.false_eq_true, if_false, Bool.true_and]
      have hs : (j + 1) * ks.length = j * ks.length + ks.length := by rw [Nat.add_mul, Nat.one_mul]
      have := eqItems_flat ⟨agg, ha, hag, hmain⟩ hi hk dd ρ xs ys X Y hX hY w m (j + 1) b2 (by simpa [hs, List.drop_drop, Nat.add_comm] using e2) (by rw [hs]; omega) (by rw [hs]; omega)
      simpa [hk] using this
theorem eqFields_flat {d : Nat} (f : TypeId → Option (List EqK)) (ih : ∀ t ks, f t = some ks → FlatOk P d t ks) (dd : Nat) (ρ : Rho) (xs ys : List V) (X Y : List Value) (hX : concs ρ xs = some X) (hY : concs ρ ys = some Y) (w : World) :
    ∀ (fs : List Field) (off : Nat) (ks : List EqK) (b : Bool), flatK.flatFs f P off fs = some ks → eqL ks (xs.drop off) (ys.drop off) = some b → off ≤ X.length → off ≤ Y.length →
      (Op.eqFields (dd + d) X.toArray Y.toArray fs).run P w = .ok b w
  | [], off, ks, b, hf, h, _, _ => by
    simp only [flatK.flatFs, Option.some.injEq] at hf; subst hf
    have : b = true := eqL_nil h
    subst this
    simp [Op.eqFields]
  | g :: fs, off, ks, b, hf, h, hxl, hyl => by
    simp only [flatK.flatFs] at hf
    split at hf
    case h_2 => cases hf
    rename_i ks' hk'
    split at hf
    case isFalse => cases hf
    rename_i hc
    obtain ⟨hn, ho, hi, hk⟩ := hc
    simp only [Option.map_eq_some_iff] at hf
    obtain ⟨ks2, hf2, rfl⟩ := hf
    obtain ⟨agg, ha, hag, hmain⟩ := ih _ _ hk'
    obtain ⟨b1, b2, e1, e2, rfl⟩ := eqL_split h
    have l1 := eqL_len e1
    have lX := concs_length hX
    have lY := concs_length hY
    simp only [List.length_take, List.length_drop] at l1
    have p1 := part_ofT ha hi (by rw [← hk]; exact hag) X off (by rw [← hk]; omega) w
    have p2 := part_ofT ha hi (by rw [← hk]; exact hag) Y off (by rw [← hk]; omega) w
    have p3 := hmain dd ρ _ _ _ _ b1 e1 (concs_take _ (concs_drop _ hX)) (concs_take _ (concs_drop _ hY)) w
    rw [Op.eqFields, if_pos hn]
    simp only [Sem.run_bind, ← hk, ho] at p1 p2 ⊢
    rw [p1, Result.andThen_ok, p2, Result.andThen_ok, p3, Result.andThen_ok]
    cases b1 with
    | false => simp
    | true =>
      simp only [Bool.not_true, Bool.false_eq_true, if_false, Bool.true_and]
      exact eqFields_flat f ih dd ρ xs ys X Y hX hY w fs (off + ks'.length) ks2 b2 hf2 (by simpa [List.drop_drop] using e2) (by omega) (by omega)
theorem flatK_sound : ∀ (d : Nat) (t : TypeId) (ks : List EqK), flatK P d t = some ks → FlatOk P d t ks
  | 0, _, _, h => by simp [flatK] at h
  | d + 1, t, ks, h => by
    unfold flatK at h
    split at h
    · rename_i hu
      simp only [Option.some.injEq] at h; subst h
      refine ⟨false, by simp [aggT, hu], .inr rfl, fun dd ρ xs ys X Y b he hX hY w => ?_⟩
      cases xs with
      | nil => simp [eqL] at he
      | cons x xs => cases ys with
        | nil => simp [eqL] at he
        | cons y ys =>
          obtain ⟨X0, X1, hx, hxs, rfl⟩ := concs_cons.1 hX
          obtain ⟨Y0, Y1, hy, hys, rfl⟩ := concs_cons.1 hY
          simp only [eqL] at he
          split at he
          · rename_i a c h1 h2
            simp only [Option.some.injEq] at he; subst he
            have : c = true := eqL_nil h2
            subst this
            have e := eqV_sound h1 (P := P) (t := t) hu hx hy (dd + d) w
            simp only [ofT, Bool.false_eq_true, if_false, List.headD_cons, Bool.and_true]
            exact e
          · cases he
    · rename_i q hu
      simp only [Option.some.injEq] at h; subst h
      refine ⟨false, by simp [aggT, hu], .inr rfl, fun dd ρ xs ys X Y b he hX hY w => ?_⟩
      cases xs with
      | nil => simp [eqL] at he
      | cons x xs => cases ys with
        | nil => simp [eqL] at he
        | cons y ys =>
          obtain ⟨X0, X1, hx, hxs, rfl⟩ := concs_cons.1 hX
          obtain ⟨Y0, Y1, hy, hys, rfl⟩ := concs_cons.1 hY
          simp only [eqL] at he
          split at he
          · rename_i a c h1 h2
            simp only [Option.some.injEq] at he; subst he
            have : c = true := eqL_nil h2
            subst this
            have e := eqV_sound h1 (P := P) (t := t) ⟨q, hu⟩ hx hy (dd + d) w
            simp only [ofT, Bool.false_eq_true, if_false, List.headD_cons, Bool.and_true]
            exact e
          · cases he
    · rename_i hu
      simp only [Option.some.injEq] at h; subst h
      refine ⟨false, by simp [aggT, hu], .inr rfl, fun dd ρ xs ys X Y b he hX hY w => ?_⟩
      cases xs with
      | nil => simp [eqL] at he
      | cons x xs => cases ys with
        | nil => simp [eqL] at he
        | cons y ys =>
          obtain ⟨X0, X1, hx, hxs, rfl⟩ := concs_cons.1 hX
          obtain ⟨Y0, Y1, hy, hys, rfl⟩ := concs_cons.1 hY
          simp only [eqL] at he
          split at he
          · rename_i a c h1 h2
            simp only [Option.some.injEq] at he; subst he
            have : c = true := eqL_nil h2
            subst this
            have e := eqV_sound h1 (P := P) (t := t) hu hx hy (dd + d) w
            simp only [ofT, Bool.false_eq_true, if_false, List.headD_cons, Bool.and_true]
            exact e
          · cases he
    · rename_i n e hu
      split at h
      case h_2 => cases h
      rename_i ks' hk'
      split at h
      case isFalse => cases h
      rename_i hc
      simp only [Option.some.injEq] at h; subst h
      refine ⟨true, by simp [aggT, hu], .inl rfl, fun dd ρ xs ys X Y b he hX hY w => ?_⟩
      obtain ⟨i, hi⟩ := Option.isSome_iff_exists.1 hc.1
      simp only [ofT, if_true]
      rw [show dd + (d + 1) = (dd + d) + 1 by omega, run_equalIn_array w (dd + d) X.toArray Y.toArray hu hi, List.range_eq_range']
      exact eqItems_flat (flatK_sound d e ks' hk') hc.1 hc.2 dd ρ xs ys X Y hX hY w n 0 b (by simpa using he) (by simp) (by simp)
    · rename_i fs hu
      split at h
      case isFalse => cases h
      rename_i hst
      refine ⟨true, by simp [aggT, hu], .inl rfl, fun dd ρ xs ys X Y b he hX hY w => ?_⟩
      have hf : P.fieldsOf t = fs := by simp [Program.fieldsOf, hu]
      simp only [ofT, if_true]
      rw [show dd + (d + 1) = (dd + d) + 1 by omega, run_equalIn_struct w (dd + d) t X.toArray Y.toArray (by rw [hf]; exact hu) hst, hf]
      exact eqFields_flat (flatK P d) (flatK_sound d) dd ρ xs ys X Y hX hY w fs.toList 0 ks b h (by simpa using he) (by simp) (by simp)
    · cases h
theorem nilKind_conc {v : V} {x : Value} {n : Nat} {b : Bool} (h : nilKind v = some n) (hb : isNil v = some b) (hx : conc ρ v = some x) :
    (n = 0 → ∃ p, x = .pointer p ∧ p.isNone = b) ∧ (n = 1 → ∃ p l c, x = .slice p l c ∧ p.isNone = b) ∧ (n = 2 → (b = true ∧ x = .nilFunc) ∨ (b = false ∧ ∃ f a c, x = .func f a c)) ∧
    (n = 3 → (b = true ∧ x = .nilIface) ∨ (b = false ∧ ∃ t u, x = .iface t u)) := by
  cases v <;> simp only [nilKind, isNil, Option.some.injEq] at h hb <;> try (cases h; done)
  all_goals
    subst h; subst hb
    simp only [conc, Option.some.injEq, Option.map_eq_some_iff, Option.bind_eq_some_iff] at hx
    refine ⟨fun e => ?_, fun e => ?_, fun e => ?_, fun e => ?_⟩ <;> first
      | (exact absurd e (by decide))
      | (subst hx; exact ⟨_, rfl, rfl⟩)
      | (subst hx; exact ⟨_, _, _, rfl, rfl⟩)
      | (obtain ⟨_, _, rfl⟩ := hx; exact ⟨_, rfl, rfl⟩)
      | (obtain ⟨_, _, rfl⟩ := hx; exact ⟨_, _, _, rfl, rfl⟩)
      | (subst hx; exact .inl ⟨rfl, rfl⟩)
      | (obtain ⟨_, _, _, _, rfl⟩ := hx; exact .inr ⟨rfl, _, _, _, rfl⟩)
      | (obtain ⟨_, _, rfl⟩ := hx; exact .inr ⟨rfl, _, _, rfl⟩)
theorem eqnil_sound {t : TypeId} {n : Nat} {x y : V} {X Y : Value} {p q : Bool} (ht : match P.underlying t with | some (.pointer _) => n = 0 | some (.slice _) => n = 1 | some (.func _ _ _) => n = 2 | some (.interface _) => n = 3 | _ => False)
    (h1 : nilKind x = some n) (h2 : nilKind y = some n) (h3 : isNil x = some p) (h4 : isNil y = some q) (h5 : p = true ∨ q = true) (hx : conc ρ x = some X) (hy : conc ρ y = some Y) (d : Nat) (w : World) :
    (Op.equalIn (d + 1) t X Y).run P w = .ok (p && q) w := by
  obtain ⟨a0, a1, a2, a3⟩ := nilKind_conc h1 h3 hx
  obtain ⟨b0, b1, b2, b3⟩ := nilKind_conc h2 h4 hy
  cases hu : P.underlying t with
  | none => simp [hu] at ht
  | some k =>
    cases k <;> simp only [hu] at ht <;> try (cases ht; done)
    all_goals simp only [Op.equalIn, Sem.run_bind, run_underlying hu, Result.andThen_ok]
    · obtain ⟨P1, rfl, rfl⟩ := a0 ht
      obtain ⟨P2, rfl, rfl⟩ := b0 ht
      cases P1 <;> cases P2 <;> simp_all
    · obtain ⟨P1, l1, c1, rfl, rfl⟩ := a1 ht
      obtain ⟨P2, l2, c2, rfl, rfl⟩ := b1 ht
      cases P1 <;> cases P2 <;> simp_all
    · rcases a2 ht with ⟨rfl, rfl⟩ | ⟨rfl, f, a, c, rfl⟩ <;> rcases b2 ht with ⟨rfl, rfl⟩ | ⟨rfl, f', a', c', rfl⟩ <;> simp_all
    · rcases a3 ht with ⟨rfl, rfl⟩ | ⟨rfl, f, a, rfl⟩ <;> rcases b3 ht with ⟨rfl, rfl⟩ | ⟨rfl, f', a', rfl⟩ <;> simp_all
end
section
theorem optA_sound (he : EvRel ρ tm re) {x : Option Operand} {a : Option A} (hx : cOpt x = some a) {d n : Int} (hn : optA tm d a = some n) :
    (x = none ∧ a = none ∧ n = d) ∨ (∃ y k, x = some y ∧ a.isSome = true ∧ re y = .int k n) := by
  cases x with
  | none =>
    simp only [cOpt, Option.some.injEq] at hx; subst hx
    simp only [optA, Option.some.injEq] at hn
    exact .inl ⟨rfl, rfl, hn.symm⟩
  | some y =>
    simp only [cOpt, Option.map_eq_some_iff] at hx
    obtain ⟨b, hb, rfl⟩ := hx
    simp only [optA] at hn
    obtain ⟨k, h1, _⟩ := opI he hb hn
    exact .inr ⟨y, k, rfl, rfl, h1⟩
theorem sliceBounds_sound (isSlice : Bool) {len cap : Nat} {lo hi mx : Option Value} {l h m : Int}
    (hl : (lo = none ∧ l = 0) ∨ ∃ k, lo = some (.int k l)) (hh : (hi = none ∧ h = len) ∨ ∃ k, hi = some (.int k h)) (hm : (mx = none ∧ m = cap) ∨ ∃ k, mx = some (.int k m))
    (hc : hi.isSome = true ∨ mx.isSome = false) (h1 : 0 ≤ m) (h2 : m ≤ cap) (h3 : 0 ≤ h) (h4 : h ≤ m) (h5 : 0 ≤ l) (h6 : l ≤ h) (w : World) :
    (Instr.sliceBounds isSlice len cap lo hi mx).run P w = .ok (l.toNat, h.toNat, m.toNat) w := by
  have hb : ∀ (k : IntKind) (i : Int) (y : Nat) (code : BoundsCode), 0 ≤ i → i ≤ y → (Instr.sliceBound (.int k i) y code).run P w = .ok i.toNat w :=
    fun k i y code a b => by simp [Instr.sliceBound, asIntOf, a, b]
  have hmm : ((m.toNat : Nat) : Int) = m := Int.toNat_of_nonneg h1
  have hhh : ((h.toNat : Nat) : Int) = h := Int.toNat_of_nonneg h3
  rcases hm with ⟨rfl, rfl⟩ | ⟨km, rfl⟩ <;> rcases hh with ⟨rfl, rfl⟩ | ⟨kh, rfl⟩ <;> rcases hl with ⟨rfl, rfl⟩ | ⟨kl, rfl⟩
  all_goals simp only [Option.isSome_some, Option.isSome_none, Bool.false_eq_true, or_false, or_true, reduceCtorEq] at hc
  all_goals simp only [Instr.sliceBounds, Sem.run_bind, Sem.run_pure, Result.andThen_ok, Option.isSome_some, Option.isSome_none, Int.toNat_natCast, Int.toNat_zero] at *
  all_goals try rfl
  all_goals try rw [hb _ _ _ _ h1 h2]
  all_goals try simp only [Result.andThen_ok]
  all_goals try rw [hb _ _ _ _ h3 (by omega)]
  all_goals try simp only [Result.andThen_ok]
  all_goals try rw [hb _ _ _ _ h5 (by omega)]
  all_goals try simp only [Result.andThen_ok]
theorem slice_off {a : Addr} {b o : Nat} (ha : a = ⟨b, o, none⟩) (s : Nat) {l m : Int} (h : 0 ≤ l) (hm : l ≤ m) : (if m.toNat = l.toNat then a else a.add (l.toNat * s)) = ⟨b, o + (if l = 0 then 0 else if m = l then 0 else l.toNat * s), none⟩ := by
  subst ha
  by_cases h0 : l = 0
  · subst h0; simp [Addr.add]
  · by_cases hml : m = l
    · subst hml; simp
    · rw [if_neg (by omega), if_neg h0, if_neg hml, Addr.add_lit]
theorem cOpt_map (he : EvRel ρ tm re) {x : Option Operand} {a : Option A} (hx : cOpt x = some a) {d n : Int} (hn : optA tm d a = some n) :
    ((x.map re = none ∧ n = d) ∨ ∃ k, x.map re = some (.int k n)) ∧ ((x.map re).isSome = a.isSome) := by
  rcases optA_sound he hx hn with ⟨rfl, rfl, rfl⟩ | ⟨y, k, rfl, h1, h2⟩
  · exact ⟨.inl ⟨rfl, rfl⟩, rfl⟩
  · exact ⟨.inr ⟨k, by simp [h2]⟩, by simp [h1]⟩
set_option maxHeartbeats 1000000 in
theorem expo_sound (he : EvRel ρ tm re) {o : Oper} {po : POp} (hc : cP P o.op = some po) {v : V} (hv : expo tm po = some v) (w : World) :
    ∃ r, (execOp re o).run P w = .ok (.value r) w ∧ conc ρ v = some r := by
  obtain ⟨dst, op, ty, pos, after, guard⟩ := o
  simp only at hc
  have hc0 := hc
  cases op <;> simp only [cP] at hc <;> try (cases hc; done)
  case move x =>
    simp only [Option.map_eq_some_iff] at hc; obtain ⟨a, ha, rfl⟩ := hc
    exact ⟨re x, rfl, opK he ha hv⟩
  case assign x =>
    simp only [Option.map_eq_some_iff] at hc; obtain ⟨a, ha, rfl⟩ := hc
    exact ⟨re x, rfl, opK he ha hv⟩
  case pick c a b =>
    simp only [Option.bind_eq_some_iff, Option.map_eq_some_iff] at hc; obtain ⟨c', hc', a', ha', b', hb', rfl⟩ := hc
    simp only [expo] at hv
    split at hv
    · rename_i t ht
      have := opB he hc' ht
      refine ⟨if t = true then re a else re b, by simp [execOp, this, asBool], ?_⟩
      cases t
      · exact opK he hb' (by simpa using hv)
      · exact opK he ha' (by simpa using hv)
    · cases hv
  case build t ps =>
    simp only [Option.bind_eq_some_iff, Option.map_eq_some_iff] at hc; obtain ⟨z, hz, pl, hpl, l, hl, rfl⟩ := hc
    simp only [expo, Option.map_eq_some_iff] at hv
    obtain ⟨out, hout, rfl⟩ := hv
    obtain ⟨i, zv, hi, hzv, hcz⟩ := zer_spec hz
    obtain ⟨D, hD, hcD⟩ := fill_sound he ps.toList l hl z zv.cells (hcz ρ) out hout
    refine ⟨.agg D, ?_, by simp [conc, hcD]⟩
    have := places_build hpl (ps.map fun p => (p.1, re p.2)) hi hzv (D := D) (by simpa using hD) w
    simp only [execOp, Sem.run_bind]
    rw [this]; rfl
  case nilCheck x =>
    simp only [Option.map_eq_some_iff] at hc; obtain ⟨a, ha, rfl⟩ := hc
    simp only [expo] at hv
    split at hv
    case h_2 => cases hv
    rename_i hn
    cases hev : ev tm a <;> simp only [hev, isNil, Option.some.injEq, Bool.true_eq_false] at hn hv <;> try (cases hn; done)
    all_goals have hx := he x a ha _ hev (by simp)
    case fn f a' c' =>
      cases f <;> simp only [Option.some.injEq] at hv <;> try (cases hv; done)
      subst hv
      simp only [conc, Option.bind_eq_some_iff, Option.map_eq_some_iff] at hx
      obtain ⟨p, hp, q, hq, hr⟩ := hx
      exact ⟨re x, by simp [execOp, ← hr], by simp [conc, hp, hq, hr]⟩
    all_goals
      subst hv
      refine ⟨re x, ?_, hx⟩
      simp only [conc, Option.map_eq_some_iff, Option.some.injEq] at hx
      first
        | (obtain ⟨p, hp, hr⟩ := hx; simp [execOp, ← hr])
        | simp [execOp, ← hx]
  case binOp op t x y yt =>
    simp only [Option.bind_eq_some_iff] at hc
    obtain ⟨x', hx', y', hy', hc⟩ := hc
    have plain : ∀ (h1 : op ≠ .eql) (h2 : op ≠ .neq), po = .bin op x' y' → ∃ r, (execOp re ⟨dst, .binOp op t x y yt, ty, pos, after, guard⟩).run P w = .ok (.value r) w ∧ conc ρ v = some r := by
      rintro h1 h2 rfl
      simp only [expo] at hv
      split at hv
      · rename_i k a k' b e1 e2 e3 e4
        have r1 := opKN he hx' e1 e2
        have r2 := opKN he hy' e3 e4
        obtain ⟨r, hr, hcr⟩ := binI_sound (P := P) op k a k' b v hv w (ρ := ρ)
        refine ⟨r, ?_, hcr⟩
        simp only [execOp, Sem.run_bind, r1, r2, eqGuard_run, Result.andThen_ok, binOp_type op t k k' a b h1 h2, hr, Sem.run_pure]
      · cases hv
    have eqs : ∀ (neg : Bool), op = (if neg then .neq else .eql) → cEq P neg t x' y' = some po → ∃ r, (execOp re ⟨dst, .binOp op t x y yt, ty, pos, after, guard⟩).run P w = .ok (.value r) w ∧ conc ρ v = some r := by
      intro neg hop hce
      have nofl : ∀ (u : V) (X : Value), conc ρ u = some X → (∀ k n, X ≠ .float k n) ∧ (∀ k a b, X ≠ .complex k a b) := by
        intro u X hu
        refine ⟨fun k n e => ?_, fun k a b e => ?_⟩ <;> subst e <;> cases u <;> simp [conc, Option.bind_eq_some_iff] at hu
      -- what remains when the guard lets by, and the two are told equal or not
      have fin : ∀ (b : Bool) (u : V), conc ρ u = some (re x) → (eqGuard op t x y (re x) (re y)).run P w = .ok () w → (Op.equal t (re x) (re y)).run P w = .ok b w → (∀ s1 s2, re x = .string s1 → re y = .string s2 → b = (s1.toList == s2.toList)) →
          (∀ k a k' c, re x = .int k a → re y = .int k' c → k = k' ∧ b = (a == c)) → v = .bool (if neg = true then !b else b) → ∃ r, (execOp re ⟨dst, .binOp op t x y yt, ty, pos, after, guard⟩).run P w = .ok (.value r) w ∧ conc ρ v = some r := by
        intro b u hcu hg hq hs hi hvb
        obtain ⟨nf, nc⟩ := nofl u _ hcu
        subst hvb
        refine ⟨.bool (if neg = true then !b else b), ?_, rfl⟩
        have hb : (binOp op t (re x) (re y)).run P w = .ok (.bool (if neg = true then !b else b)) w := by
          have two : ∀ (o : BinOp) (f : Bool → Bool), binOp o t (re x) (re y) = (do pure (.bool (f (← Op.equal t (re x) (re y))))) → (binOp o t (re x) (re y)).run P w = .ok (.bool (f b)) w := by
            intro o f e
            rw [e]; simp [hq]
          have gen : (∀ k a k' c, re x = .int k a → re y = .int k' c → False) → (∀ s1 s2, re x = .string s1 → re y = .string s2 → False) →
              binOp .eql t (re x) (re y) = (do pure (.bool (← Op.equal t (re x) (re y)))) ∧ binOp .neq t (re x) (re y) = (do pure (.bool (!(← Op.equal t (re x) (re y))))) := by
            intro g1 g2
            generalize re x = X at *
            generalize re y = Y at *
            cases X
            case float => exact absurd rfl (nf _ _)
            case complex => exact absurd rfl (nc _ _ _)
            case int => cases Y <;> first | exact ⟨rfl, rfl⟩ | exact (g1 _ _ _ _ rfl rfl).elim
            case string => cases Y <;> first | exact ⟨rfl, rfl⟩ | exact (g2 _ _ rfl rfl).elim
            all_goals exact ⟨rfl, rfl⟩
          by_cases hii : ∃ k a k' c, re x = .int k a ∧ re y = .int k' c
          · obtain ⟨k, a, k', c, e1, e2⟩ := hii
            obtain ⟨rfl, rfl⟩ := hi k a k' c e1 e2
            rw [e1, e2]
            cases neg <;> subst hop <;> simp [binOp, Op.intCmp, bne]
          · by_cases hss : ∃ s1 s2, re x = .string s1 ∧ re y = .string s2
            · obtain ⟨s1, s2, e1, e2⟩ := hss
              have := hs s1 s2 e1 e2
              subst this
              rw [e1, e2]
              cases neg <;> subst hop <;> simp [binOp, Op.stringOp]
            · obtain ⟨q1, q2⟩ := gen (fun k a k' c e1 e2 => hii ⟨k, a, k', c, e1, e2⟩) (fun s1 s2 e1 e2 => hss ⟨s1, s2, e1, e2⟩)
              cases neg <;> subst hop
              · exact two .eql id q1
              · exact two .neq (!·) q2
        simp only [execOp, Sem.run_bind, hg, Result.andThen_ok, hb, Sem.run_pure]
      have hgp : ∀ {X Y : Value}, (∀ cs, X ≠ .agg cs) → ¬ (X = .nilIface ∧ Y = .nilIface) → (eqGuard op t x y X Y).run P w = .ok () w := by
        intro X Y h1 h2
        cases X
        case agg cs => exact absurd rfl (h1 cs)
        case nilIface => cases Y <;> first | (exact absurd ⟨rfl, rfl⟩ h2) | (cases op <;> rfl)
        all_goals (cases op <;> rfl)
      have scal : ∀ (k : EqK), po = .eq neg k x' y' → EqT P k t →
          ∃ r, (execOp re ⟨dst, .binOp op t x y yt, ty, pos, after, guard⟩).run P w = .ok (.value r) w ∧ conc ρ v = some r := by
        rintro k rfl ht
        simp only [expo, Option.map_eq_some_iff] at hv
        obtain ⟨b, hb, hvb⟩ := hv
        have kx : ∃ X, conc ρ (ev tm x') = some X ∧ re x = X ∧ (∀ cs, X ≠ .agg cs) ∧ X ≠ .nilIface := by
          cases k <;> simp only [eqV] at hb <;> split at hb <;> try (cases hb; done)
          · rename_i a1 a2 a3 a4 h1 h2 h3 h4; rw [asKN h1 h3]; exact ⟨_, rfl, opKN he hx' h1 h3, by simp, by simp⟩
          · rename_i a1 a2 h1 h2; rw [asB_eq h1]; exact ⟨_, rfl, opB he hx' h1, by simp, by simp⟩
          · rename_i a1 a2 h1 h2; rw [asS_eq h1]; exact ⟨_, rfl, opS he hx' h1, by simp, by simp⟩
        have ky : conc ρ (ev tm y') = some (re y) := by
          cases k <;> simp only [eqV] at hb <;> split at hb <;> try (cases hb; done)
          · rename_i a1 a2 a3 a4 h1 h2 h3 h4; rw [asKN h2 h4]; rw [opKN he hy' h2 h4]; rfl
          · rename_i a1 a2 h1 h2; rw [asB_eq h2]; rw [opB he hy' h2]; rfl
          · rename_i a1 a2 h1 h2; rw [asS_eq h2]; rw [opS he hy' h2]; rfl
        obtain ⟨X, hX, rfl, nx1, nx2⟩ := kx
        have hq := eqV_sound (P := P) hb ht hX ky 9999 w
        refine fin b _ hX (hgp nx1 (fun h => nx2 h.1)) hq ?_ ?_ hvb.symm
        · intro s1 s2 e1 e2
          cases k <;> simp only [eqV] at hb <;> split at hb <;> try (cases hb; done)
          · rename_i a1 a2 a3 a4 h1 h2 h3 h4; rw [opKN he hx' h1 h3] at e1; cases e1
          · rename_i a1 a2 h1 h2; rw [opB he hx' h1] at e1; cases e1
          · rename_i a1 a2 h1 h2
            rw [opS he hx' h1] at e1; cases e1
            rw [opS he hy' h2] at e2; cases e2
            simp only [Option.some.injEq] at hb
            rw [← hb, beq_toListBytes]
        · intro k1 a k2 c e1 e2
          rw [e1] at hX; rw [e2] at ky
          cases k <;> simp only [eqV] at hb <;> split at hb <;> try (cases hb; done)
          · rename_i a1 a2 a3 a4 h1 h2 h3 h4
            split at hb <;> cases hb
            rename_i hk
            rw [asKN h1 h3] at hX; rw [asKN h2 h4] at ky
            simp only [conc, Option.some.injEq, Value.int.injEq] at hX ky
            obtain ⟨rfl, rfl⟩ := hX
            obtain ⟨rfl, rfl⟩ := ky
            exact ⟨hk, rfl⟩
          · rename_i a1 a2 h1 h2; rw [asB_eq h1] at hX; simp [conc] at hX
          · rename_i a1 a2 h1 h2; rw [asS_eq h1] at hX; simp [conc] at hX
      have nils : ∀ (n : Nat), po = .eqn neg n x' y' → (match P.underlying t with | some (.pointer _) => n = 0 | some (.slice _) => n = 1 | some (.func _ _ _) => n = 2 | some (.interface _) => n = 3 | _ => False) →
          ∃ r, (execOp re ⟨dst, .binOp op t x y yt, ty, pos, after, guard⟩).run P w = .ok (.value r) w ∧ conc ρ v = some r := by
        rintro n rfl ht
        simp only [expo] at hv
        split at hv
        case h_2 => cases hv
        rename_i a b p q h1 h2 h3 h4
        split at hv
        case isFalse => cases hv
        rename_i hcond
        obtain ⟨rfl, rfl, h5, h6⟩ := hcond
        simp only [Option.some.injEq] at hv
        have nx : ev tm x' ≠ .unk := fun e => by rw [e] at h1; simp [nilKind] at h1
        have ny : ev tm y' ≠ .unk := fun e => by rw [e] at h2; simp [nilKind] at h2
        have hX := he x x' hx' _ rfl nx
        have hY := he y y' hy' _ rfl ny
        obtain ⟨a0, a1, a2, a3⟩ := nilKind_conc h1 h3 hX
        obtain ⟨b0, b1, b2, b3⟩ := nilKind_conc h2 h4 hY
        have hk : b ≤ 3 := by
          cases hu : P.underlying t with
          | none => simp [hu] at ht
          | some k => cases k <;> simp only [hu] at ht <;> first | (exact ht.elim) | omega
        have hno : (∀ cs, re x ≠ .agg cs) ∧ (∀ s, re x ≠ .string s) ∧ (∀ k n, re x ≠ .int k n) ∧ ¬ (re x = .nilIface ∧ re y = .nilIface) := by
          have : b = 0 ∨ b = 1 ∨ b = 2 ∨ b = 3 := by omega
          rcases this with e | e | e | e
          · obtain ⟨P1, e1, _⟩ := a0 e; rw [e1]; simp
          · obtain ⟨P1, l, c, e1, _⟩ := a1 e; rw [e1]; simp
          · rcases a2 e with ⟨_, e1⟩ | ⟨_, f, a, c, e1⟩ <;> rw [e1] <;> simp
          · have h6' := h6 e
            rcases a3 e with ⟨r1, e1⟩ | ⟨r1, f, a, e1⟩ <;> rcases b3 e with ⟨r2, e2⟩ | ⟨r2, f2, a2', e2⟩ <;> rw [e1, e2] <;> simp_all
        have hq := eqnil_sound (P := P) (t := t) ht h1 h2 h3 h4 h5 hX hY 9999 w
        exact fin (p && q) _ hX (hgp hno.1 hno.2.2.2) hq (fun s1 s2 e1 _ => absurd e1 (hno.2.1 s1)) (fun k a k' c e1 _ => absurd e1 (hno.2.2.1 k a)) hv.symm
      have aggs : ∀ (ks : List EqK), po = .eqa neg ks x' y' → P.eqGuardType P.depth t = false → flatK P 20 t = some ks → aggT P t = some true →
          ∃ r, (execOp re ⟨dst, .binOp op t x y yt, ty, pos, after, guard⟩).run P w = .ok (.value r) w ∧ conc ρ v = some r := by
        rintro ks rfl hgt hks hagg
        simp only [expo] at hv
        split at hv
        case h_2 => cases hv
        rename_i a b h1 h2
        simp only [Option.map_eq_some_iff] at hv
        obtain ⟨r, hr, hvr⟩ := hv
        obtain ⟨X, hX, hX'⟩ := opG he hx' h1
        obtain ⟨Y, hY, hY'⟩ := opG he hy' h2
        obtain ⟨agg, g1, g2, g3⟩ := flatK_sound (P := P) 20 t ks hks
        rw [hagg] at g1; cases g1
        have hq := g3 9980 ρ a b X Y r hr hX hY w
        simp only [ofT, if_true] at hq
        refine fin r (.agg a) (by simp [conc, hX, hX']) ?_ (by rw [hX', hY']; exact hq) (fun s1 s2 e1 _ => by rw [hX'] at e1; cases e1) (fun k a k' c e1 _ => by rw [hX'] at e1; cases e1) hvr.symm
        rw [hX', hY']
        unfold eqGuard
        cases neg <;> subst hop <;> simp [hgt]
      unfold cEq at hce
      split at hce
      · rename_i q hu; exact scal .i (by simpa using hce.symm) ⟨q, hu⟩
      · rename_i hu; exact scal .b (by simpa using hce.symm) hu
      · rename_i hu; exact scal .s (by simpa using hce.symm) hu
      · rename_i q hu; exact nils 0 (by simpa using hce.symm) (by simp [hu])
      · rename_i q hu; exact nils 1 (by simpa using hce.symm) (by simp [hu])
      · rename_i q1 q2 q3 hu; exact nils 2 (by simpa using hce.symm) (by simp [hu])
      · rename_i q hu; exact nils 3 (by simpa using hce.symm) (by simp [hu])
      · rename_i q1 q2 hu
        split at hce
        · rename_i hgt
          simp only [Option.map_eq_some_iff] at hce
          obtain ⟨ks, hks, rfl⟩ := hce
          exact aggs ks rfl hgt hks (by simp [aggT, hu])
        · cases hce
      · rename_i q1 hu
        split at hce
        · rename_i hgt
          simp only [Option.map_eq_some_iff] at hce
          obtain ⟨ks, hks, rfl⟩ := hce
          exact aggs ks rfl hgt hks (by simp [aggT, hu])
        · cases hce
      · cases hce
    cases op
    case eql => exact eqs false rfl hc
    case neq => exact eqs true rfl hc
    all_goals exact plain (by simp) (by simp) (by simpa using hc.symm)
  case unOp op t x =>
    simp only [Option.map_eq_some_iff] at hc; obtain ⟨a, ha, rfl⟩ := hc
    simp only [expo] at hv
    cases op <;> simp only at hv <;> try (cases hv; done)
    case neg =>
      split at hv <;> cases hv
      rename_i k n h1 h2
      exact ⟨_, by simp [execOp, opKN he ha h1 h2, Op.unary, Op.intArith], rfl⟩
    case xor =>
      split at hv <;> cases hv
      rename_i k n h1 h2
      exact ⟨_, by simp [execOp, opKN he ha h1 h2, Op.unary, Op.intBits, bits], rfl⟩
    case not =>
      simp only [Option.map_eq_some_iff] at hv
      obtain ⟨b, hb, rfl⟩ := hv
      exact ⟨_, by simp [execOp, opB he ha hb, Op.unary], rfl⟩
  case convert s d x =>
    split at hc <;> try (cases hc; done)
    rename_i q k h1 h2
    simp only [Option.map_eq_some_iff] at hc; obtain ⟨a, ha, rfl⟩ := hc
    simp only [expo, Option.map_eq_some_iff] at hv
    obtain ⟨n, hn, rfl⟩ := hv
    obtain ⟨k', hk', _⟩ := opI he ha hn
    exact ⟨_, by simp [execOp, hk', convert, run_underlying h1, run_underlying h2, Conv.intToInt], rfl⟩
  case makeInterface t x =>
    split at hc <;> try (cases hc; done)
    rename_i hcon
    simp only [Option.map_eq_some_iff] at hc; obtain ⟨a, ha, rfl⟩ := hc
    simp only [expo, Option.map_eq_some_iff] at hv
    obtain ⟨u, hu, rfl⟩ := hv
    exact ⟨.iface t (re x), by simp [execOp, run_makeInterface w t (re x) hcon], by simp [conc, opK he ha hu]⟩
  case makeFunc f a c =>
    simp only [Option.bind_eq_some_iff, Option.map_eq_some_iff] at hc; obtain ⟨a', ha', c', hc', rfl⟩ := hc
    simp only [expo] at hv
    split at hv <;> try (cases hv; done)
    rename_i x y hx hy
    simp only [Option.some.injEq] at hv; subst hv
    have e1 := opAs he ha' hx
    have e2 := opAs he hc' hy
    refine ⟨.func f (a.map re) (c.map re), by simp [execOp, Instr.makeFunc], ?_⟩
    simp [conc, e1, e2]
    exact ⟨by apply Array.ext'; simp, by apply Array.ext'; simp⟩
  case slice t x lo hi mx =>
    simp only [Option.bind_eq_some_iff] at hc
    obtain ⟨x', hx', lo', hlo', hi', hhi', mx', hmx', hc⟩ := hc
    split at hc
    · rename_i hu
      split at hc
      · cases hc
      rename_i hm
      simp only [Option.some.injEq] at hc; subst hc
      simp only [expo] at hv
      split at hv <;> try (cases hv; done)
      rename_i b hb
      split at hv <;> try (cases hv; done)
      rename_i l h hl hh
      split at hv <;> try (cases hv; done)
      rename_i hcond
      obtain ⟨g1, g2, g3⟩ := hcond
      simp only [Option.some.injEq] at hv; subst hv
      obtain ⟨m1, m2⟩ := cOpt_map he hlo' hl
      obtain ⟨m3, m4⟩ := cOpt_map he hhi' hh
      have mxn : mx = none := by
        cases mx with
        | none => rfl
        | some y => simp only [cOpt, Option.map_eq_some_iff] at hmx'; obtain ⟨q, _, rfl⟩ := hmx'; simp at hm
      subst mxn
      have hsb := sliceBounds_sound (P := P) false (len := b.size) (cap := b.size) (mx := none) (m := b.size) m1 m3 (.inl ⟨rfl, rfl⟩) (.inr rfl) (by omega) (by omega) (by omega) g3 g1 g2 w
      refine ⟨.string (b.extract l.toNat h.toNat), ?_, rfl⟩
      simp only [execOp, Sem.run_bind, Instr.sliceAt, run_underlying hu, Result.andThen_ok, Instr.slice, opS he hx' hb, Option.map_none, Option.isSome_none, Bool.false_eq_true, if_false, hsb, Sem.run_pure]
    · rename_i e hu
      simp only [Option.map_eq_some_iff] at hc
      obtain ⟨s, hs, rfl⟩ := hc
      simp only [expo] at hv
      split at hv <;> try (cases hv; done)
      · rename_i i o len cap hev
        split at hv <;> try (cases hv; done)
        rename_i l h m hl hh hm
        split at hv <;> try (cases hv; done)
        rename_i hgood
        unfold sliceAtV at hv
        split at hv <;> try (cases hv; done)
        rename_i hcond
        obtain ⟨g1, g2, g3, g4, g5, g6⟩ := hcond
        simp only [Option.some.injEq] at hv; subst hv
        obtain ⟨m1, m2⟩ := cOpt_map he hlo' hl
        obtain ⟨m3, m4⟩ := cOpt_map he hhi' hh
        obtain ⟨m5, m6⟩ := cOpt_map he hmx' hm
        have hX := he x x' hx' _ hev (by simp)
        simp only [conc, Option.map_eq_some_iff] at hX
        obtain ⟨p, hp, hr⟩ := hX
        have hsb := sliceBounds_sound (P := P) true (len := len) (cap := cap) m1 m3 m5 (by rw [m4, m6]; exact hgood) g1 g2 g3 g4 g5 g6 w
        refine ⟨.slice (some ⟨p.block, p.base + o + (if l = 0 then 0 else if m = l then 0 else l.toNat * s), none⟩) (h - l).toNat (m - l).toNat, ?_, ?_⟩
        · simp only [execOp, Sem.run_bind, Instr.sliceAt, run_underlying hu, Result.andThen_ok, Instr.slice, ← hr, Cap.at, hsb, isz_spec hs, Sem.run_pure]
          have := slice_off (a := ⟨p.block, p.base + o, none⟩) rfl s g5 (show l ≤ m by omega)
          congr 3
          congr 1
          · rw [← this]; split <;> rfl
          · omega
          · omega
        · simp [conc, hp, Cap.at, Nat.add_assoc]
      · rename_i hev
        split at hv <;> try (cases hv; done)
        rename_i l h m hl hh hm
        split at hv <;> try (cases hv; done)
        rename_i hgood
        obtain ⟨hgood, rfl, rfl, rfl⟩ := hgood
        simp only [Option.some.injEq] at hv; subst hv
        obtain ⟨m1, m2⟩ := cOpt_map he hlo' hl
        obtain ⟨m3, m4⟩ := cOpt_map he hhi' hh
        obtain ⟨m5, m6⟩ := cOpt_map he hmx' hm
        have hX := he x x' hx' _ hev (by simp)
        simp only [conc, Option.some.injEq] at hX
        have hsb := sliceBounds_sound (P := P) true (len := 0) (cap := 0) m1 m3 m5 (by rw [m4, m6]; exact hgood) (by omega) (by omega) (by omega) (by omega) (by omega) (by omega) w
        refine ⟨.slice none 0 0, ?_, rfl⟩
        simp only [execOp, Sem.run_bind, Instr.sliceAt, run_underlying hu, Result.andThen_ok, Instr.slice, ← hX, hsb, isz_spec hs, Sem.run_pure]
        simp
    · rename_i n e hu
      simp only [Option.map_eq_some_iff] at hc
      obtain ⟨s, hs, rfl⟩ := hc
      simp only [expo] at hv
      split at hv <;> try (cases hv; done)
      rename_i i o hev
      split at hv <;> try (cases hv; done)
      rename_i l h m hl hh hm
      split at hv <;> try (cases hv; done)
      rename_i hgood
      unfold sliceAtV at hv
      split at hv <;> try (cases hv; done)
      rename_i hcond
      obtain ⟨g1, g2, g3, g4, g5, g6⟩ := hcond
      simp only [Option.some.injEq] at hv; subst hv
      obtain ⟨m1, m2⟩ := cOpt_map he hlo' hl
      obtain ⟨m3, m4⟩ := cOpt_map he hhi' hh
      obtain ⟨m5, m6⟩ := cOpt_map he hmx' hm
      have hX := he x x' hx' _ hev (by simp)
      simp only [conc, Option.map_eq_some_iff] at hX
      obtain ⟨p, hp, hr⟩ := hX
      have hsb := sliceBounds_sound (P := P) false (len := n) (cap := n) m1 m3 m5 (by rw [m4, m6]; exact hgood) g1 g2 g3 g4 g5 g6 w
      refine ⟨.slice (some ⟨p.block, p.base + o + (if l = 0 then 0 else if m = l then 0 else l.toNat * s), none⟩) (h - l).toNat (m - l).toNat, ?_, ?_⟩
      · simp only [execOp, Sem.run_bind, Instr.sliceAt, run_underlying hu, Result.andThen_ok, Instr.sureAddr, ← hr, hsb, isz_spec hs, Sem.run_pure]
        have := slice_off (a := ⟨p.block, p.base + o, none⟩) rfl s g5 (show l ≤ m by omega)
        congr 3
        congr 1
        · omega
        · omega
      · simp [conc, hp, Cap.at, Nat.add_assoc]
    · cases hc
  case fieldAddr s x f =>
    split at hc <;> try (cases hc; done)
    rename_i fs hu
    split at hc <;> try (cases hc; done)
    rename_i g hg
    split at hc <;> try (cases hc; done)
    rename_i n hn
    split at hc <;> try (cases hc; done)
    rename_i hn0
    simp only [Option.map_eq_some_iff] at hc; obtain ⟨a, ha, rfl⟩ := hc
    simp only [expo] at hv
    have hfp : ∀ (b o : Nat), (fieldPlace ⟨b, o, none⟩ g).run P w = .ok ⟨b, o + g.offset, none⟩ w := by
      intro b o
      simp only [fieldPlace, Sem.run_bind, isz_spec hn, Result.andThen_ok, Sem.run_ite]
      rw [if_neg hn0, Addr.add_lit]; rfl
    split at hv <;> try (cases hv; done)
    · rename_i i o hev
      simp only [Option.some.injEq] at hv; subst hv
      have hX := he x a ha _ hev (by simp)
      simp only [conc, Option.map_eq_some_iff] at hX
      obtain ⟨p, hp, hr⟩ := hX
      refine ⟨.pointer (some ⟨p.block, p.base + o + g.offset, none⟩), ?_, by simp [conc, hp, Nat.add_assoc]⟩
      simp only [execOp, Sem.run_bind, Instr.fieldAt, run_underlying hu, Result.andThen_ok, hg, ← hr, Instr.sureAddr, Sem.run_pure, hfp]
    · rename_i i o hev
      simp only [Option.some.injEq] at hv; subst hv
      have hX := he x a ha _ hev (by simp)
      simp only [conc, Option.some.injEq] at hX
      refine ⟨.pointer (some ⟨i, o + g.offset, none⟩), ?_, by simp [conc]⟩
      simp only [execOp, Sem.run_bind, Instr.fieldAt, run_underlying hu, Result.andThen_ok, hg, ← hX, Instr.sureAddr, Sem.run_pure, hfp]
  case field t x f =>
    split at hc <;> try (cases hc; done)
    rename_i fs hu
    split at hc <;> try (cases hc; done)
    rename_i g hg
    simp only [Option.bind_eq_some_iff] at hc
    obtain ⟨agg, hagg, n, hn, hc⟩ := hc
    split at hc <;> try (cases hc; done)
    simp only [Option.map_eq_some_iff] at hc; obtain ⟨a, ha, rfl⟩ := hc
    simp only [expo] at hv
    split at hv <;> try (cases hv; done)
    rename_i l hl
    split at hv <;> try (cases hv; done)
    obtain ⟨r, hr, hr'⟩ := opG he ha hl
    obtain ⟨X, h1, h2⟩ := part_sound (P := P) hagg hn hr hv w
    exact ⟨X, by simp only [execOp, Sem.run_bind, Instr.field, run_underlying hu, Result.andThen_ok, hg, hr', asAgg, Sem.run_pure, h1], h2⟩
  case indexAddr t x i =>
    simp only [Option.bind_eq_some_iff] at hc
    obtain ⟨x', hx', i', hi', hc⟩ := hc
    split at hc
    · rename_i n s harr
      simp only [Option.some.injEq] at hc; subst hc
      unfold arr at harr
      split at harr <;> try (cases harr; done)
      rename_i n' e hu
      simp only [Option.map_eq_some_iff, Prod.mk.injEq] at harr
      obtain ⟨s', hs, rfl, rfl⟩ := harr
      simp only [expo] at hv
      split at hv <;> try (cases hv; done)
      rename_i j hj
      split at hv <;> try (cases hv; done)
      rename_i hcond
      obtain ⟨k, hk, _⟩ := opI he hi' hj
      have hat : ∀ (q : Addr), q.spot = none → re x = .pointer (some q) → (execOp re ⟨dst, .indexAddr t x i, ty, pos, after, guard⟩).run P w = .ok (.value (.pointer (some ⟨q.block, q.off + j.toNat * s', none⟩))) w := by
        rintro ⟨b, o, sp⟩ rfl hx
        simp only [execOp, Sem.run_bind, Instr.indexAt, hk, hx, asIntOf, Sem.run_pure, Result.andThen_ok, run_underlying hu, Instr.sureAddr, Sem.run_ite, isz_spec hs]
        rw [if_pos hcond, Addr.add_lit]; rfl
      split at hv <;> try (cases hv; done)
      · rename_i b o hev
        simp only [Option.some.injEq] at hv; subst hv
        have hX := he x x' hx' _ hev (by simp)
        simp only [conc, Option.map_eq_some_iff] at hX
        obtain ⟨p, hp, hr⟩ := hX
        exact ⟨_, hat ⟨p.block, p.base + o, none⟩ rfl hr.symm, by simp [conc, hp, Nat.add_assoc]⟩
      · rename_i b o hev
        simp only [Option.some.injEq] at hv; subst hv
        have hX := he x x' hx' _ hev (by simp)
        simp only [conc, Option.some.injEq] at hX
        exact ⟨_, hat ⟨b, o, none⟩ rfl hX.symm, by simp [conc]⟩
    · split at hc <;> try (cases hc; done)
      rename_i s hsl
      simp only [Option.some.injEq] at hc; subst hc
      unfold slE at hsl
      split at hsl <;> try (cases hsl; done)
      rename_i e hu
      simp only [expo] at hv
      split at hv <;> try (cases hv; done)
      rename_i j hj
      split at hv <;> try (cases hv; done)
      rename_i b o len cap hev
      split at hv <;> try (cases hv; done)
      rename_i hcond
      simp only [Option.some.injEq] at hv; subst hv
      obtain ⟨k, hk, _⟩ := opI he hi' hj
      have hX := he x x' hx' _ hev (by simp)
      simp only [conc, Option.map_eq_some_iff] at hX
      obtain ⟨p, hp, hr⟩ := hX
      refine ⟨.pointer (some ⟨p.block, p.base + o + j.toNat * s, none⟩), ?_, by simp [conc, hp, Nat.add_assoc]⟩
      simp only [execOp, Sem.run_bind, Instr.indexAt, hk, ← hr, asIntOf, Sem.run_pure, Result.andThen_ok, run_underlying hu, Sem.run_ite, isz_spec hsl]
      rw [if_pos hcond, Addr.add_lit]; rfl
  case index t x i =>
    simp only [Option.bind_eq_some_iff] at hc
    obtain ⟨x', hx', i', hi', hc⟩ := hc
    split at hc
    · rename_i n e hu
      simp only [Option.bind_eq_some_iff] at hc
      obtain ⟨agg, hagg, s, hs, hc⟩ := hc
      split at hc <;> try (cases hc; done)
      simp only [Option.some.injEq] at hc; subst hc
      simp only [expo] at hv
      split at hv <;> try (cases hv; done)
      rename_i j l hj hl
      split at hv <;> try (cases hv; done)
      rename_i hcond
      obtain ⟨k, hk, _⟩ := opI he hi' hj
      obtain ⟨r, hr, hr'⟩ := opG he hx' hl
      obtain ⟨X, h1, h2⟩ := part_sound (P := P) hagg hs hr hv w
      refine ⟨X, ?_, h2⟩
      simp only [execOp, Sem.run_bind, Instr.index, hk, hr', asIntOf, Sem.run_pure, Result.andThen_ok, run_underlying hu, Sem.run_ite, isz_spec hs]
      rw [if_pos ⟨hcond.1, hcond.2.1⟩, h1]; rfl
    · rename_i hu
      simp only [Option.some.injEq] at hc; subst hc
      simp only [expo] at hv
      split at hv <;> try (cases hv; done)
      rename_i j b hj hb
      split at hv <;> try (cases hv; done)
      rename_i hcond
      split at hv <;> try (cases hv; done)
      rename_i c hcb
      simp only [Option.some.injEq] at hv; subst hv
      obtain ⟨k, hk, _⟩ := opI he hi' hj
      refine ⟨_, ?_, rfl⟩
      simp [execOp, Instr.index, hk, opS he hx' hb, asIntOf, run_underlying hu, hcond, hcb]
    · cases hc
  case extract x i =>
    simp only [Option.map_eq_some_iff] at hc; obtain ⟨a, ha, rfl⟩ := hc
    simp only [expo] at hv
    split at hv <;> try (cases hv; done)
    rename_i l hl
    split at hv <;> try (cases hv; done)
    rename_i u hu
    obtain ⟨rfl, hne⟩ := kn_some hv
    obtain ⟨r, hr, hr'⟩ := opT he ha hl
    obtain ⟨X, h1, h2⟩ := concs_get hr i _ hu
    exact ⟨X, by simp [execOp, Instr.extract, hr', h2], h1⟩
  case call c =>
    obtain ⟨callee, args, ts⟩ := c
    clear hc
    have hc := hc0
    cases callee <;> try (simp [cP] at hc; done)
    rename_i bi
    cases bi <;> try (simp [cP] at hc; done)
    simp only [cP] at hc
    split at hc <;> try (cases hc; done)
    rename_i x t h1 h2
    have e1 : args = #[x] := by apply Array.ext'; simpa using h1
    have e2 : ts = #[t] := by apply Array.ext'; simpa using h2
    subst e1; subst e2
    have base : ∀ (n : Int), (Builtin.len_ #[t] ty #[re x]).run P w = .ok (goInt n) w → (execOp re ⟨dst, .call ⟨.builtin .len, #[x], #[t]⟩, ty, pos, after, guard⟩).run P w = .ok (.value (.int .i64 n)) w := by
      intro n hn
      simp [execOp, resolve, invoke, builtin, hn, goInt]
    split at hc
    · rename_i e hu
      simp only [Option.map_eq_some_iff] at hc; obtain ⟨a, ha, rfl⟩ := hc
      simp only [expo, Bool.false_eq_true, if_false, Option.map_eq_some_iff] at hv
      obtain ⟨n, hn, rfl⟩ := hv
      generalize hev : ev _ a = x' at hn
      cases x' <;> simp only [lenO, Option.some.injEq, reduceCtorEq] at hn
      · subst hn
        have hX := he x a ha _ hev (by simp)
        simp only [conc, Option.some.injEq] at hX
        exact ⟨_, base 0 (by simp [Builtin.len_, run_underlying hu, ← hX]), rfl⟩
      · subst hn
        have hX := he x a ha _ hev (by simp)
        simp only [conc, Option.map_eq_some_iff] at hX
        obtain ⟨p, hp, hr⟩ := hX
        exact ⟨_, base _ (by simp [Builtin.len_, run_underlying hu, ← hr]), rfl⟩
    · rename_i hu
      simp only [Option.map_eq_some_iff] at hc; obtain ⟨a, ha, rfl⟩ := hc
      simp only [expo, if_true, Option.map_eq_some_iff] at hv
      obtain ⟨s, hs, rfl⟩ := hv
      exact ⟨_, base s.size (by simp [Builtin.len_, run_underlying hu, opS he ha hs]), rfl⟩
    · rename_i n e hu
      simp only [Option.some.injEq] at hc; subst hc
      simp only [expo, Option.some.injEq] at hv; subst hv
      exact ⟨_, base n (by simp [Builtin.len_, run_underlying hu]), rfl⟩
    · cases hc
end
end Go.Vs
namespace Go.Vs
variable {P : Program} {G : Nat → List V}
inductive VOp where
  | p (o : POp)
  | ld (agg : Bool) (n : Nat) (a : A)
  | slx (s : Nat) (x : A) (lo hi mx : Option A)
  | new (z : List V)
  | box (x : A)
  | bsl (len : Nat) (z : List V) (ps : List (Nat × Nat × A))
  | mks (s bytes : Nat) (z : List V) (l c : A)
  | st (n : Nat) (a x : A)
  | app (s bytes : Nat) (str : Bool) (x y : A)
  | cpy (s : Nat) (x y : A)
  | cvs (x : A)
  | bad
def byteV (s : ByteArray) : List V := s.data.toList.map fun b => .int .u8 (b.toNat : Int)
def srcV (G : Nat → List V) (h : Heap) (s : Nat) (str : Bool) (v : V) (n : Nat) : Option (List V) :=
  if str = true then (asS v).map fun b => (byteV b).take n else match v with
    | .nils => some []
    | .sl i o _ _ => ldc G h (.ptr i o) (n * s)
    | _ => none
def lenV (str : Bool) (v : V) : Option Nat :=
  if str = true then (asS v).map (·.size) else match v with
    | .nils => some 0
    | .sl _ _ n _ => some n
    | _ => none
def appV (G : Nat → List V) (h : Heap) (s bytes : Nat) (str : Bool) (x y : V) : Option (V × Heap) :=
  match lenV str y with
  | none => none
  | some n => match srcV G h s str y n with
    | none => none
    | some new => if new.all V.one = true then match x with
      | .nils => if n = 0 then some (.nils, h) else if 0 < s ∧ n * bytes ≤ 281474976710656 ∧ n ≤ 9223372036854775807 then some (.sl h.length 0 n (.grow s), h ++ [some ⟨.grow, new⟩]) else none
      | .sl i o len (.exact cap) =>
        if len + n ≤ cap then (if new = [] then some (.sl i o (len + n) (.exact cap), h) else (stc h (.ptr i (o + len * s)) new).map fun h' => (.sl i o (len + n) (.exact cap), h'))
        else match ldc G h (.ptr i o) (len * s) with
          | some old => if 0 < s ∧ (len + n) * bytes ≤ 140737488355328 ∧ len + n ≤ 9223372036854775807 then some (.sl h.length 0 (len + n) (.grow s), h ++ [some ⟨.grow, old ++ new⟩]) else none
          | none => none
      | .sl i o len (.grow s') => match h[i]? with
        | some (some b) => if b.kind.g = true ∧ o = 0 ∧ s' = s ∧ 0 < s ∧ b.cells.length = len * s ∧ new.length = n * s ∧ (len + n) * bytes ≤ 140737488355328 ∧ len + n ≤ 9223372036854775807 then
            (if n = 0 then some (.sl i o len (.grow s), h) else some (.sl h.length 0 (len + n) (.grow s), h.set i none ++ [some ⟨.grow, b.cells ++ new⟩])) else none
        | _ => none
      | _ => none
    else none
def u8s : List V → Option (List Int)
  | [] => some []
  | .int .u8 n :: r => (u8s r).map (n :: ·)
  | _ => none
def bstr (ns : List Int) : ByteArray := ns.foldl (fun r n => r.push (UInt8.ofNat n.toNat)) ByteArray.empty
def optM (tm : List V) : Option A → Option (Option Int)
  | none => some none
  | some a => (asN (ev tm a)).map some
def exo (G : Nat → List V) (tm : List V) (h : Heap) : VOp → Option (V × Heap)
  | .p o => (expo tm o).map fun v => (v, h)
  | .ld agg n a => match ldc G h (ev tm a) n with
    | some l => if agg = true then some (.agg l, h) else match l with
      | [v] => some (v, h)
      | _ => none
    | none => none
  | .slx s x lo hi mx => match ev tm x with
    | .sl i o len (.grow s') => match h[i]? with
      | some (some b) => match optA tm 0 lo, optA tm len hi, optM tm mx with
        | some l, some e, some none => if s' = s ∧ 0 < s ∧ o + len * s ≤ b.cells.length ∧ 0 ≤ l ∧ l ≤ e ∧ e ≤ len ∧ (l = 0 ∨ l < len ∨ o + (len + 1) * s ≤ b.cells.length) then some (.sl i (o + l.toNat * s) (e - l).toNat (.grow s), h) else none
        | some l, some e, some (some m) => if s' = s ∧ 0 < s ∧ hi.isSome = true ∧ o + len * s ≤ b.cells.length ∧ 0 ≤ l ∧ l ≤ e ∧ e ≤ m ∧ m ≤ len then some (.sl i (o + (if l = 0 then 0 else if m = l then 0 else l.toNat * s)) (e - l).toNat (.exact (m - l).toNat), h) else none
        | _, _, _ => none
      | _ => none
    | _ => (expo tm (.sle s x lo hi mx)).map fun v => (v, h)
  | .new z => some (.ptr h.length 0, h ++ [some ⟨.rw, z⟩])
  | .box x => (kn (ev tm x)).map fun v => (.ptr h.length 0, h ++ [some ⟨.rw, cellsOf v⟩])
  | .bsl len z ps => (fillV z tm ps).map fun cs => (.sl h.length 0 len (.exact len), h ++ [some ⟨.rw, cs⟩])
  | .mks _ bytes z l c => match asN (ev tm l), asN (ev tm c) with
    | some l, some c => if 0 ≤ l ∧ l ≤ c ∧ (bytes : Int) * c ≤ 281474976710656 ∧ c ≤ 9223372036854775807 then some (.sl h.length 0 l.toNat (.exact c.toNat), h ++ [some ⟨.rw, (List.replicate c.toNat z).flatten⟩]) else none
    | _, _ => none
  | .st n a x => match kn (ev tm x) with
    | some v => if (cellsOf v).length = n then (stc h (ev tm a) (cellsOf v)).map fun h' => (.tup [], h') else none
    | none => none
  | .app s bytes str x y => appV G h s bytes str (ev tm x) (ev tm y)
  | .cpy s x y => match ev tm x, lenV false (ev tm y) with
    | .sl i o len _, some n => match srcV G h s false (ev tm y) (min n len) with
      | some [] => some (.int .i64 (min n len : Nat), h)
      | some cs => (stc h (.ptr i o) cs).map fun h' => (.int .i64 (min n len : Nat), h')
      | none => none
    | _, _ => none
  | .cvs x => match ev tm x with
    | .nils => some (.str .empty, h)
    | .sl i o n _ => match ldc G h (.ptr i o) n with
      | some l => (u8s l).map fun ns => (.str (bstr ns), h)
      | none => none
    | _ => none
  | .bad => none
def cO (P : Program) : Op → Option VOp
  | .load t a => (aggT P t).bind fun agg => (isz P t).bind fun n => if agg = true ∨ n = 1 then (cA a).map (.ld agg n) else none
  | .alloc t => (zer P t).map .new
  | .box _ x => (cA x).map .box
  | .store t a x => (isz P t).bind fun n => (cA a).bind fun a => (cA x).map fun x => .st n a x
  | .slice t x lo hi mx => match P.underlying t with
    | some (.slice e) => (isz P e).bind fun s => (cA x).bind fun x => (cOpt lo).bind fun lo => (cOpt hi).bind fun hi => (cOpt mx).map fun mx => .slx s x lo hi mx
    | _ => (cP P (.slice t x lo hi mx)).map .p
  | .buildSlice t len ps => match P.underlying t with
    | some (.slice e) => (isz P e).bind fun s => (zer P e).bind fun z => if len * s ≤ 16777216 ∧ z.length = s then
        (cParts (fun i => some (i * s, s)) ps.toList).map fun l => .bsl len (List.replicate len z).flatten l else none
    | _ => none
  | .makeSlice t l c => match P.underlying t with
    | some (.slice e) => (P.info? e).bind fun i => (zer P e).bind fun z => if z.length = i.size then (cA l).bind fun l => (cA c).map fun c => .mks i.size i.bytes z l c else none
    | _ => none
  | .call ⟨.builtin .append, args, ts⟩ => match args.toList, ts.toList with
    | [x, y], [t, u] => match P.underlying t with
      | some (.slice e) => (P.info? e).bind fun i => (zer P e).bind fun z => if z.length = i.size ∧ i.bytes ≤ 281474976710656 then (cA x).bind fun x => (cA y).bind fun y => match P.underlying u with
        | some (.slice _) => some (.app i.size i.bytes false x y)
        | some .string => if i.size = 1 then some (.app 1 i.bytes true x y) else none
        | _ => none else none
      | _ => none
    | _, _ => none
  | .call ⟨.builtin .copy, args, ts⟩ => match args.toList, ts.toList with
    | [x, y], [t, _] => match P.underlying t with
      | some (.slice e) => (isz P e).bind fun s => (cA x).bind fun x => (cA y).map fun y => .cpy s x y
      | _ => none
    | _, _ => none
  | .convert t u x => match P.underlying t, P.underlying u with
    | some (.slice e), some .string => match P.underlying e with | some (.int .u8) => (cA x).map .cvs | _ => none
    | _, _ => match cP P (.convert t u x) with | some o => some (.p o) | none => some .bad
  | op => (cP P op).map .p
def Snd (P : Program) (G : Nat → List V) (ρ : Rho) (h : Heap) (w : World) (re : Operand → Value) (o : Oper) (v : V) (h' : Heap) : Prop :=
  ∃ ρ' w' r, ((execOp re o).run P w = .ok (.value r) w' ∨ ((execOp re o).run P w = .ok .skip w' ∧ r = undef)) ∧ conc ρ' v = some r ∧ Sim G ρ' h' w' ∧ Keeps ρ h w ρ' h' w'
theorem Snd.pure {ρ : Rho} {h : Heap} {w : World} {re : Operand → Value} {o : Oper} {v : V} (s : Sim G ρ h w) {r : Value} (hr : (execOp re o).run P w = .ok (.value r) w) (hc : conc ρ v = some r) : Snd P G ρ h w re o v h :=
  ⟨ρ, w, r, .inl hr, hc, s, Keeps.refl _ _ _⟩
theorem undef_conc (ρ : Rho) : conc ρ (.tup []) = some undef := by simp [conc, concs, undef]
end Go.Vs
namespace Go.Vs
variable {P : Program} {G : Nat → List V} {ρ : Rho} {h : Heap} {w : World} {tm : List V} {re : Operand → Value}
theorem opU (he : EvRel ρ tm re) {x : Operand} {a : A} (hx : cA x = some a) {v : V} (hv : ev tm a = v) (hu : v ≠ .unk) : conc ρ v = some (re x) := he x a hx v hv hu
theorem ldc_unk {a : V} {n : Nat} {l : List V} (hl : ldc G h a n = some l) : a ≠ .unk := fun e => by subst e; simp [ldc] at hl
theorem ld_sound (s : Sim G ρ h w) (he : EvRel ρ tm re) {t : TypeId} {x : Operand} {agg : Bool} {n : Nat} {a : A} (h1 : aggT P t = some agg) (h2 : isz P t = some n) (h3 : agg = true ∨ n = 1) (ha : cA x = some a) {l : List V} (hl : ldc G h (ev tm a) n = some l)
    {v : V} (hv : (agg = true ∧ v = .agg l) ∨ (agg = false ∧ l = [v])) : ∃ r, (Instr.loadAt t (re x)).run P w = .ok r w ∧ conc ρ v = some r := by
  have hX := opU he ha rfl (ldc_unk hl)
  obtain ⟨hn, p, rs, hp, hsp, hr, hc⟩ := load_sim s hl hX
  have hlen := concs_length hr
  simp only [Instr.loadAt, Sem.run_bind, hp, Instr.sureAddr, Sem.run_pure, Result.andThen_ok, loadVar, aggT_spec h1, Sem.run_ite, isz_spec h2]
  rcases hv with ⟨rfl, rfl⟩ | ⟨rfl, rfl⟩
  · have := run_loadCells_list (P := P) w p rs hc
    simp only [if_true]
    rw [show n = rs.length by omega, this]
    exact ⟨_, rfl, by simp [conc, hr]⟩
  · obtain ⟨X, Y, g1, g2, rfl⟩ := concs_cons.1 hr
    have := hc 0 X rfl
    rw [Addr.add_zero'] at this
    refine ⟨X, ?_, g1⟩
    simp [this]
theorem st_sound (s : Sim G ρ h w) (he : EvRel ρ tm re) {t : TypeId} {x y : Operand} {n : Nat} {a b : A} (h2 : isz P t = some n) (ha : cA x = some a) (hb : cA y = some b) {v : V} (hv : kn (ev tm b) = some v) (hn : (cellsOf v).length = n) {h' : Heap} (hs : stc h (ev tm a) (cellsOf v) = some h') :
    ∃ w', (Instr.storeAt t (re x) (re y)).run P w = .ok () w' ∧ Sim G ρ h' w' ∧ Keeps ρ h w ρ h' w' := by
  have hu : ev tm a ≠ .unk := fun e => by rw [e] at hs; simp [stc] at hs
  have hX := opU he ha rfl hu
  have hY := opK he hb hv
  obtain ⟨bl, o, e1, e2, e3, e4⟩ := store_sim (P := P) s hs hX (cells_conc hY)
  refine ⟨_, ?_, e3, e4⟩
  have hlen := concs_length (cells_conc hY)
  simp only [Instr.storeAt, Sem.run_bind, e1, Instr.sureAddr, Sem.run_pure, Result.andThen_ok, storeVar, isz_spec h2, Sem.run_ite]
  rw [if_neg (by simp at hlen; simp; omega), e2]
theorem var_sound (s : Sim G ρ h w) (t : TypeId) {cs : List V} {z : Value} (hz : concs ρ cs = some z.cells.toList) :
    ∃ ρ' w', (newVar t z).run P w = .ok ⟨w.heap.size, 0, none⟩ w' ∧ conc ρ' (.ptr h.length 0) = some (.pointer (some ⟨w.heap.size, 0, none⟩)) ∧ Sim G ρ' (h ++ [some ⟨.rw, cs⟩]) w' ∧ Keeps ρ h w ρ' (h ++ [some ⟨.rw, cs⟩]) w' := by
  have hlen := concs_length hz
  obtain ⟨g1, g2⟩ := new_sim s .rw cs z.cells t (by simp at hlen; omega) (fun j v hv _ => by obtain ⟨x, hx, hx'⟩ := concs_get hz j v hv; exact ⟨x, hx, by simpa using hx'⟩) (w.alloc (.cells z.cells t)) (.inl rfl)
  refine ⟨_, _, ?_, ?_, g1, g2⟩
  · simp only [newVar, newRow, Sem.run_bind, run_newObj, Result.andThen_ok, Sem.run_pure]; rfl
  · simp [conc, ← s.rlen, place_new]
theorem row_sound (s : Sim G ρ h w) (t : TypeId) {cs : List V} {rs : Array Value} (k : Kind) (len : Nat) (cap : Cap) (hle : cs.length ≤ rs.size) (hz : ∀ (j : Nat) (v : V), cs[j]? = some v → v ≠ .unk → ∃ r, conc ρ v = some r ∧ rs[j]? = some r) (w' : World) (hw : w' = w.alloc (.cells rs t) ∨ w' = w.drew.alloc (.cells rs t)) (hkm : k.m = true := by rfl) :
    ∃ ρ', conc ρ' (.sl h.length 0 len cap) = some (.slice (some ⟨w.heap.size, 0, none⟩) len (cap.at ⟨w.heap.size, 0, rs.size⟩ 0)) ∧ Sim G ρ' (h ++ [some ⟨k, cs⟩]) w' ∧ Keeps ρ h w ρ' (h ++ [some ⟨k, cs⟩]) w' := by
  obtain ⟨g1, g2⟩ := new_sim s k cs rs t hle hz w' hw hkm
  refine ⟨_, ?_, g1, g2⟩
  simp [conc, ← s.rlen, place_new]
theorem getElem?_made (z : Array Value) (n j : Nat) : (madeCells z n)[j]? = if j < n then some (z[j % z.size]!) else none := by
  simp only [madeCells, Array.getElem?_map]
  by_cases h : j < n
  · rw [if_pos h, Array.getElem?_range, if_pos h]; rfl
  · rw [if_neg h, Array.getElem?_range, if_neg h]; rfl
theorem getElem?_rep (z : List V) : ∀ (c j : Nat), j < c * z.length → (List.replicate c z).flatten[j]? = z[j % z.length]?
  | 0, j, h => by simp at h
  | c + 1, j, h => by
    rw [List.replicate_succ, List.flatten_cons]
    by_cases hj : j < z.length
    · rw [List.getElem?_append_left hj, Nat.mod_eq_of_lt hj]
    · rw [List.getElem?_append_right (by omega), getElem?_rep z c (j - z.length) (by rw [Nat.add_mul] at h; omega)]
      rw [Nat.mod_eq_sub_mod (by omega : j ≥ z.length)]
theorem made_conc {z : List V} {zv : Array Value} (hz : concs ρ z = some zv.toList) (c : Nat) : ∀ (j : Nat) (v : V), (List.replicate c z).flatten[j]? = some v → ∃ r, conc ρ v = some r ∧ (madeCells zv (c * z.length))[j]? = some r := by
  intro j v hv
  have hlen := concs_length hz
  have hj : j < c * z.length := by
    have := (List.getElem?_eq_some_iff.1 hv).1
    simpa using this
  rw [getElem?_rep z c j hj] at hv
  obtain ⟨r, h1, h2⟩ := concs_get hz (j % z.length) v hv
  refine ⟨r, h1, ?_⟩
  rw [getElem?_made, if_pos hj]
  have hsz : zv.size = z.length := by simpa using hlen
  rw [hsz]
  simp only [Array.getElem?_toList] at h2
  rw [getElem!_def, h2]
theorem byteV_conc (ρ : Rho) (b : ByteArray) : concs ρ (byteV b) = some (b.data.toList.map fun x => Value.int .u8 (x.toNat : Int)) := by
  unfold byteV
  induction b.data.toList with
  | nil => rfl
  | cons x l ih => exact concs_cons.2 ⟨_, _, rfl, ih, rfl⟩
theorem src_sound (s : Sim G ρ h w) {y : V} {Y : Value} (hY : conc ρ y = some Y) {sz : Nat} {str : Bool} (hstr : str = true → sz = 1) {n m : Nat} (hm : lenV str y = some m) (hnm : n ≤ m) {new : List V} (hnew : srcV G h sz str y n = some new) :
    (Builtin.lenOf Y).run P w = .ok m w ∧ ∃ rs : List Value, concs ρ new = some rs ∧ rs.length = n * sz ∧
      ∀ w', (∀ b o, b < w.heap.size → w'.cell? ⟨b, o, none⟩ = w.cell? ⟨b, o, none⟩) → (Builtin.firstCells sz n Y).run P w' = .ok rs.toArray w' := by
  unfold lenV at hm
  unfold srcV at hnew
  cases str with
  | true =>
    simp only [if_true, Option.map_eq_some_iff] at hm hnew
    obtain ⟨b, hb, rfl⟩ := hm
    obtain ⟨b', hb', rfl⟩ := hnew
    rw [hb] at hb'; cases hb'
    rw [asS_eq hb] at hY
    simp only [conc, Option.some.injEq] at hY
    subst hY
    have hsz := hstr rfl
    subst hsz
    refine ⟨by simp [Builtin.lenOf], _, concs_take n (byteV_conc ρ b), ?_, fun w' _ => ?_⟩
    · have : b.size = b.data.toList.length := by simp
      simp; omega
    · simp only [Builtin.firstCells, Sem.run_pure]
      congr 1
      apply Array.ext'
      have hd : (b.extract 0 n).data = b.data.extract 0 n := ByteArray.data_extract
      rw [hd]
      simp [List.extract, List.map_take]
  | false =>
    simp only [Bool.false_eq_true, if_false] at hm hnew
    cases y with
    | nils =>
      simp only [Option.some.injEq] at hm hnew
      subst hm; subst hnew
      simp only [conc, Option.some.injEq] at hY
      subst hY
      have hn0 : n = 0 := by omega
      subst hn0
      exact ⟨by simp [Builtin.lenOf], [], rfl, by simp, fun w' _ => by simp [Builtin.firstCells]⟩
    | sl i o len cap =>
      simp only [Option.some.injEq] at hm hnew
      subst hm
      simp only [conc, Option.map_eq_some_iff] at hY
      obtain ⟨p, hp, rfl⟩ := hY
      have hX : conc ρ (.ptr i o) = some (.pointer (some ⟨p.block, p.base + o, none⟩)) := by simp [conc, hp]
      obtain ⟨hn, q, rs, hq, _, hr, hc⟩ := load_sim s hnew hX
      cases hq
      have hlt : p.block < w.heap.size ∨ n * sz = 0 := by
        simp only [ldc] at hnew
        split at hnew <;> try (cases hnew; done)
        rename_i b hb
        exact .inl (s.blk i b p hb hp).1
      have hlen := concs_length hr
      refine ⟨by simp [Builtin.lenOf], rs, hr, by omega, fun w' hw' => ?_⟩
      simp only [Builtin.firstCells]
      rw [show n * sz = rs.length by omega]
      refine run_loadCells_list w' _ rs fun j v hv => ?_
      rw [← hc j v hv, Addr.add_lit]
      rcases hlt with hlt | hz
      · exact hw' _ _ hlt
      · have := (List.getElem?_eq_some_iff.1 hv).1; omega
    | _ => simp at hm
end Go.Vs
