/- Text 2 of 11 of this claim: a machine of plain values beside the model, what the functions of the program and of the reference answer over it, and last the row and its card. -/
import Derived.Test.YtgppccahbcbanaaDoorK1
import Derived.Laws.BytesString
import Derived.LoopN
import Derived.Scope
import Derived.RangeFuncRecord
import Derived.RangeFuncCalls
import Derived.OrdersIn
set_option linter.unusedVariables false
set_option linter.unusedSimpArgs false
namespace Go.Vs
variable {P : Program} {G : Nat → List V} {ρ : Rho} {h : Heap} {w : World}
section
def SrcT (P : Program) (u : TypeId) : Prop := (∃ e, P.underlying u = some (.slice e)) ∨ P.underlying u = some .string
theorem app_in (w w' : World) (t u ty e : TypeId) (i : TypeInfo) (ht : P.underlying t = some (.slice e)) (hu : SrcT P u) (hi : P.info? e = some i)
    (base : Option Addr) (sLen sCap n : Nat) (Y : Value) (rs : List Value) (hlen : (Builtin.lenOf Y).run P w = .ok n w) (hf : (Builtin.firstCells i.size n Y).run P w = .ok rs.toArray w)
    (hc : sLen + n ≤ sCap) (hst : match base with | some a => (storeCells (a.add (sLen * i.size)) rs).run P w = .ok () w' | none => w' = w) :
    (Builtin.append_ #[t, u] ty #[.slice base sLen sCap, Y]).run P w = .ok (.slice base (sLen + n) sCap) w' := by
  have hz : ∀ d, P.underlying u = some d → (match d with | .int _ => true | _ => false) = false := by
    intro d hd
    rcases hu with ⟨e', h⟩ | h <;> rw [hd] at h <;> cases h <;> rfl
  obtain ⟨d, hd⟩ : ∃ d, P.underlying u = some d := by rcases hu with ⟨e', h⟩ | h <;> exact ⟨_, h⟩
  have hzd := hz d hd
  cases base with
  | some a =>
    simp only at hst
    rcases hu with ⟨e', h⟩ | h <;>
      simp [Builtin.append_, run_underlying ht, run_underlying h, sizeOf, typeInfo, hi, hlen, hc, hf, hst]
  | none =>
    simp only at hst
    subst hst
    rcases hu with ⟨e', h⟩ | h <;>
      simp [Builtin.append_, run_underlying ht, run_underlying h, sizeOf, typeInfo, hi, hlen, hc, hf]
theorem app_out (w : World) (t u ty e : TypeId) (i : TypeInfo) (z : Value) (ht : P.underlying t = some (.slice e)) (hu : SrcT P u) (hi : P.info? e = some i) (hzv : i.zero = some z)
    (X Y : Value) (base : Option Addr) (sLen sCap n : Nat) (hX : X = .slice base sLen sCap) (olds rs : List Value) (hlen : (Builtin.lenOf Y).run P w = .ok n w) (hf : (Builtin.firstCells i.size n Y).run P w.drew = .ok rs.toArray w.drew)
    (hfo : (Builtin.firstCells i.size sLen X).run P w.drew = .ok olds.toArray w.drew) (hc : sCap < sLen + n) (h63 : sLen + n ≤ 9223372036854775807) (hfit : Builtin.nextslicecap (sLen + n) sCap * i.bytes ≤ 281474976710656) :
    (Builtin.append_ #[t, u] ty #[X, Y]).run P w =
      .ok (.slice (some ⟨w.heap.size, 0, none⟩) (sLen + n) (grownCap w (sLen + n) sCap e)) (w.drew.alloc (.cells (olds.toArray ++ rs.toArray ++ Builtin.zeroCells z.cells (grownCap w (sLen + n) sCap e - (sLen + n))) e)) := by
  subst hX
  have hn : ¬ (sLen + n ≤ sCap) := by omega
  have h63' : ¬ (9223372036854775807 < ((sLen : Int) + (n : Int))) := by omega
  have h48' : ¬ (281474976710656 < Builtin.nextslicecap (sLen + n) sCap * i.bytes) := by omega
  rcases hu with ⟨e', h⟩ | h
  · simp [Builtin.append_, run_underlying ht, run_underlying h, sizeOf, typeInfo, zeroValue, hi, hzv, hlen, hn, h63', h48', Question.forced, hf, hfo, newRow, grownCap]
    congr 2
    apply Array.ext'
    simp [List.append_assoc]
  · simp [Builtin.append_, run_underlying ht, run_underlying h, sizeOf, typeInfo, zeroValue, hi, hzv, hlen, hn, h63', h48', Question.forced, hf, hfo, newRow, grownCap]
    congr 2
    apply Array.ext'
    simp [List.append_assoc]
theorem le_grownCap (w : World) (need old : Nat) (e : TypeId) : need ≤ grownCap w need old e := by
  simp only [grownCap, Question.cut]
  omega
theorem zeroCells_size (z : Array Value) (n : Nat) : (Builtin.zeroCells z n).size = n * z.size := by simp [Builtin.zeroCells]
end
section
theorem live_kill {i j : Nat} {b : Blk} (hl : Live (h.set i none) j b) : j ≠ i ∧ Live h j b := by
  rcases live_set j b hl with ⟨_, e⟩ | e
  · cases e
  · exact e
theorem kill_sim (s : Sim G ρ h w) (i : Nat) : Sim G ρ (h.set i none) w ∧ Keeps ρ h w ρ (h.set i none) w := by
  refine ⟨⟨by simp [s.rlen], fun j b hl => s.plc j b (live_kill hl).2, fun j b p hl hp => s.cells j b p (live_kill hl).2 hp, fun j b p hl hp => s.blk j b p (live_kill hl).2 hp,
    fun j b p hl hp hk => s.wr j b p (live_kill hl).2 hp hk, fun j k bj bk pj pk hne hlj hlk hpj hpk hk => s.disj j k bj bk pj pk hne (live_kill hlj).2 (live_kill hlk).2 hpj hpk hk, s.globs, s.gsz, fun j b p r hl hp hk => s.lp j b p r (live_kill hl).2 hp hk⟩, ?_⟩
  exact {
    tape := rfl, os := rfl, output := rfl, size := Nat.le_refl _
    same := fun _ _ _ => rfl
    own := by rintro b hb ⟨j, bj, q, hl, hq, hk, he⟩; exact ⟨j, bj, q, (live_kill hl).2, hq, hk, he⟩
    fresh := fun j b p hj hl _ => absurd hl.lt (by simp; omega)
    ext := Ext.refl _
    len := by simp
    dead := fun j hj => by
      rw [List.getElem?_set]
      split
      · have : j < h.length := (List.getElem?_eq_some_iff.1 hj).1
        simp; omega
      · exact hj
    unb := fun _ _ _ h => h
    rle := Nat.le_refl _ }
theorem grow_sim (s : Sim G ρ h w) {i : Nat} {b : Blk} {p : Pl} (hl : Live h i b) (hp : place ρ i = some p) (hk : b.kind = .grow) {new : List V} {rs : List Value} (hr : concs ρ new = some rs) (hone : new.all V.one = true)
    (hfit : b.cells.length + new.length ≤ p.size) : p.base = 0 ∧ (storeCells ⟨p.block, b.cells.length, none⟩ rs).run P w = .ok () (w.setCells p.block b.cells.length rs) ∧
    Sim G (ρ ++ [some p]) (h.set i none ++ [some ⟨.grow, b.cells ++ new⟩]) (w.setCells p.block b.cells.length rs) ∧
    Keeps ρ h w (ρ ++ [some p]) (h.set i none ++ [some ⟨.grow, b.cells ++ new⟩]) (w.setCells p.block b.cells.length rs) := by
  have hkr : b.kind ≠ .ro := by rw [hk]; simp
  obtain ⟨hbase, hG, c, e, fr, hcell, hcs, hfr⟩ := s.wr i b p hl hp (by rw [hk]; rfl)
  have hlen := concs_length hr
  have hblk := (s.blk i b p hl hp).1
  have hsome : ∀ j, j < rs.length → (w.cell? ⟨p.block, b.cells.length + j, none⟩).isSome = true := by
    intro j hj
    have : b.cells.length + j < c.size := by omega
    simp [World.cell?, hcell, this]
  have hext := Ext.append ρ [some p]
  have hil := hl.lt
  have oldl : ∀ {j : Nat} {bj : Blk}, Live (h.set i none ++ [some ⟨.grow, b.cells ++ new⟩]) j bj → (j < h.length ∧ j ≠ i ∧ Live h j bj) ∨ (j = h.length ∧ bj = ⟨.grow, b.cells ++ new⟩) := by
    intro j bj hlj
    rcases live_append hlj with ⟨h1, h2⟩ | ⟨h1, h2⟩
    · simp at h1
      obtain ⟨h3, h4⟩ := live_kill h2
      exact .inl ⟨h1, h3, h4⟩
    · simp at h1 h2
      exact .inr ⟨h1, h2.symm⟩
  have oldp : ∀ {j : Nat} {q : Pl}, j < h.length → place (ρ ++ [some p]) j = some q → place ρ j = some q := by
    intro j q hj hq
    rcases place_append hq with ⟨_, h'⟩ | ⟨h', _⟩
    · exact h'
    · rw [s.rlen] at h'; omega
  have newp : ∀ {q : Pl}, place (ρ ++ [some p]) h.length = some q → q = p := by
    intro q hq
    rw [← s.rlen, place_new] at hq
    cases hq; rfl
  refine ⟨hbase, ?_, ⟨?_, ?_, ?_, ?_, ?_, ?_, ?_, ?_, ?_⟩, ?_⟩
  · have := run_storeCells_cells (P := P) p.block b.cells.length rs 0 w (by simpa using hsome) (by intro j hj; simpa using hfr (b.cells.length + j) (by omega)) (one_concs hone hr)
    simpa using this
  · simp [s.rlen]
  · intro j bj hlj
    rcases oldl hlj with ⟨h1, h2, h3⟩ | ⟨rfl, _⟩
    · obtain ⟨q, hq⟩ := s.plc j bj h3; exact ⟨q, hext j q hq⟩
    · exact ⟨p, by rw [← s.rlen]; exact place_new _ _⟩
  · intro j bj q hlj hq hm k v hv hu
    rcases oldl hlj with ⟨h1, h2, h3⟩ | ⟨rfl, rfl⟩
    · have hq' := oldp h1 hq
      obtain ⟨r, g1, g2⟩ := s.cells j bj q h3 hq' hm k v hv hu
      refine ⟨r, conc_ext hext v r g1, ?_⟩
      have := s.disj i j b bj p q (Ne.symm h2) hl h3 hp hq' hkr
      rw [World.cell?_setCells_out _ _ _ _ _ (fun e' => absurd e'.symm this)]
      exact g2
    · rw [newp hq]
      simp only at hv
      rw [hbase, Nat.zero_add]
      by_cases hk' : k < b.cells.length
      · rw [List.getElem?_append_left hk'] at hv
        obtain ⟨r, g1, g2⟩ := s.cells i b p hl hp (by rw [hk]; rfl) k v hv hu
        refine ⟨r, conc_ext hext v r g1, ?_⟩
        rw [World.cell?_setCells_out _ _ _ _ _ (fun _ _ => .inl hk')]
        simpa [hbase] using g2
      · obtain ⟨m, rfl⟩ := Nat.exists_eq_add_of_le (Nat.le_of_not_lt hk')
        rw [List.getElem?_append_right (by omega), Nat.add_sub_cancel_left] at hv
        obtain ⟨r, g1, g2⟩ := concs_get hr m v hv
        refine ⟨r, conc_ext hext v r g1, ?_⟩
        have hm : m < rs.length := (List.getElem?_eq_some_iff.1 g2).1
        rw [World.cell?_setCells_in p.block rs _ w hsome m hm, ← g2, List.getElem?_eq_getElem]
  · intro j bj q hlj hq
    rw [setCells_size]
    rcases oldl hlj with ⟨h1, h2, h3⟩ | ⟨rfl, rfl⟩
    · exact s.blk j bj q h3 (oldp h1 hq)
    · rw [newp hq]; exact ⟨hblk, by simpa using hfit⟩
  · intro j bj q hlj hq hkj
    rcases oldl hlj with ⟨h1, h2, h3⟩ | ⟨rfl, rfl⟩
    · have hq' := oldp h1 hq
      obtain ⟨g1, g2, c2, e2, f2, g3, g4, g5⟩ := s.wr j bj q h3 hq' hkj
      exact ⟨g1, g2, c2, e2, f2, by rw [setCells_heap_ne _ _ _ _ _ (s.disj i j b bj p q (Ne.symm h2) hl h3 hp hq' hkr).symm]; exact g3, g4, fun k hk' => by rw [World.frozen?_setCells]; exact g5 k hk'⟩
    · rw [newp hq]
      obtain ⟨c', g1, g2⟩ := setCells_heap_eq p.block rs b.cells.length w c e fr hcell
      exact ⟨hbase, hG, c', e, fr, g1, g2.trans hcs, fun k hk' => by rw [World.frozen?_setCells]; exact hfr k (by omega)⟩
  · intro j k bj bk pj pk hne hlj hlk hpj hpk hkj
    rcases oldl hlj with ⟨h1, h2, h3⟩ | ⟨rfl, rfl⟩ <;> rcases oldl hlk with ⟨h4, h5, h6⟩ | ⟨rfl, rfl⟩
    · exact s.disj j k bj bk pj pk hne h3 h6 (oldp h1 hpj) (oldp h4 hpk) hkj
    · rw [newp hpk]
      exact s.disj j i bj b pj p h2 h3 hl (oldp h1 hpj) hp hkj
    · rw [newp hpj]
      exact s.disj i k b bk p pk (Ne.symm h5) hl h6 hp (oldp h4 hpk) hkr
    · exact absurd rfl hne
  · intro g k v hv hu
    obtain ⟨r, g1, g2⟩ := s.globs g k v hv hu
    refine ⟨r, g1, ?_⟩
    have hne : g ≠ p.block := fun e' => by rw [e', hG] at hv; simp at hv
    rw [World.cell?_setCells_out _ _ _ _ _ (fun e' => absurd e' hne)]
    exact g2
  · intro g hg; rw [setCells_size] at hg; exact s.gsz g hg
  · intro j bj q r hlj hq hkj
    rcases oldl hlj with ⟨h1, h2, h3⟩ | ⟨rfl, rfl⟩
    · have hq' := oldp h1 hq
      obtain ⟨g1, g2, g3⟩ := s.lp j bj q r h3 hq' hkj
      exact ⟨g1, by rw [setCells_heap_ne _ _ _ _ _ (s.disj i j b bj p q (Ne.symm h2) hl h3 hp hq' hkr).symm]; exact g2, g3.ext hext⟩
    · simp only at hkj; cases hkj
  · obtain ⟨t1, t2, t3⟩ := setCells_tape p.block rs b.cells.length w
    exact {
      tape := t1, os := t2, output := t3
      size := by rw [setCells_size]; exact Nat.le_refl _
      same := fun n hn hw => setCells_heap_ne _ _ _ _ _ fun e' => hw ⟨i, b, p, hl, hp, hkr, e'.symm⟩
      own := by
        rintro n hn ⟨j, bj, q, hlj, hq, hkj, he⟩
        rcases oldl hlj with ⟨h1, h2, h3⟩ | ⟨rfl, rfl⟩
        · exact ⟨j, bj, q, h3, oldp h1 hq, hkj, he⟩
        · rw [newp hq] at he; exact ⟨i, b, p, hl, hp, hkr, he⟩
      fresh := fun j bj q hj hlj hq => by
        rcases oldl hlj with ⟨h1, _, _⟩ | ⟨rfl, rfl⟩
        · omega
        · rw [newp hq]; exact .inr ⟨i, b, p, hl, hp, hkr, rfl⟩
      ext := hext
      len := by simp
      dead := fun j hj => by
        have hj' : j < h.length := (List.getElem?_eq_some_iff.1 hj).1
        rw [List.getElem?_append_left (by simpa using hj'), List.getElem?_set]
        split
        · simp
        · exact hj
      unb := fun i _ hi hp => unb_append hi hp
      rle := by simp }
theorem keeps_then {h₁ h₂ : Heap} {ρ₂ : Rho} {w₂ : World} (s₁ : Sim G ρ h₁ w) (a : Keeps ρ h w ρ h₁ w) (b : Keeps ρ h₁ w ρ₂ h₂ w₂) : Keeps ρ h w ρ₂ h₂ w₂ := Keeps.trans s₁.plc a b
theorem div_cap {c s : Nat} (hs : 0 < s) (n : Nat) (hn : n ≤ c) : (n * s + (c - n) * s - 0) / s = c := by
  rw [Nat.sub_zero, ← Nat.add_mul, Nat.mul_div_cancel _ hs]; omega
theorem app_sound (s : Sim G ρ h w) {t u ty e : TypeId} {i : TypeInfo} {z : Value} (ht : P.underlying t = some (.slice e)) (hu : SrcT P u) (hi : P.info? e = some i) (hzv : i.zero = some z) (hzs : z.cells.size = i.size) {str : Bool} (hstr : str = true → i.size = 1)
    {x y : V} {X Y : Value} (hX : conc ρ x = some X) (hY : conc ρ y = some Y) {v : V} {h' : Heap} (ha : appV G h i.size i.bytes str x y = some (v, h')) :
    ∃ ρ' w' r, (Builtin.append_ #[t, u] ty #[X, Y]).run P w = .ok r w' ∧ conc ρ' v = some r ∧ Sim G ρ' h' w' ∧ Keeps ρ h w ρ' h' w' := by
  unfold appV at ha
  split at ha <;> try (cases ha; done)
  rename_i n hn
  split at ha <;> try (cases ha; done)
  rename_i new hnew
  split at ha <;> try (cases ha; done)
  rename_i hone
  obtain ⟨hlen, rs, hrs, hrl, hf⟩ := src_sound (P := P) s hY hstr hn (Nat.le_refl _) hnew
  have hfw := hf w fun _ _ _ => rfl
  have hfd : (Builtin.firstCells i.size n Y).run P w.drew = .ok rs.toArray w.drew := hf _ fun _ _ _ => rfl
  have hnl := concs_length hrs
  -- a new block, with the old cells ahead
  have grown : ∀ (base : Option Addr) (sLen sCap : Nat) (old : List V) (olds : List Value) (h₁ : Heap), X = .slice base sLen sCap → Sim G ρ h₁ w → Keeps ρ h w ρ h₁ w → h₁.length = h.length → (olds.length = old.length ∧ ∀ (j : Nat) (v : V), old[j]? = some v → v ≠ .unk → ∃ r, conc ρ v = some r ∧ olds[j]? = some r) → olds.length = sLen * i.size →
      (Builtin.firstCells i.size sLen X).run P w.drew = .ok olds.toArray w.drew → sCap < sLen + n → 0 < i.size → sLen + n ≤ 9223372036854775807 → Builtin.nextslicecap (sLen + n) sCap * i.bytes ≤ 281474976710656 →
      v = .sl h.length 0 (sLen + n) (.grow i.size) → h' = h₁ ++ [some ⟨.grow, old ++ new⟩] →
      ∃ ρ' w' r, (Builtin.append_ #[t, u] ty #[X, Y]).run P w = .ok r w' ∧ conc ρ' v = some r ∧ Sim G ρ' h' w' ∧ Keeps ρ h w ρ' h' w' := by
    intro base sLen sCap old olds h₁ hXe s₁ k₁ hl₁ hold holdl hfo hc hs h63 hfit hv hh
    subst hv; subst hh
    have hrun := app_out w t u ty e i z ht hu hi hzv X Y base sLen sCap n hXe olds rs hlen hfd hfo hc h63 hfit
    have hcap := le_grownCap w (sLen + n) sCap e
    generalize grownCap w (sLen + n) sCap e = C at hrun hcap
    have hsize : (olds.toArray ++ rs.toArray ++ Builtin.zeroCells z.cells (C - (sLen + n))).size = (sLen + n) * i.size + (C - (sLen + n)) * i.size := by
      simp only [Array.size_append, zeroCells_size, hzs, List.size_toArray, holdl, hrl, Nat.add_mul]
    obtain ⟨ρ', g1, g2, g3⟩ := row_sound s₁ e (cs := old ++ new) .grow (sLen + n) (.grow i.size) (rs := olds.toArray ++ rs.toArray ++ Builtin.zeroCells z.cells (C - (sLen + n)))
      (by rw [hsize]; have := hold.1; simp; rw [Nat.add_mul]; omega)
      (fun j v hv hu => by
        have key : ∃ r, conc ρ v = some r ∧ (olds ++ rs)[j]? = some r := by
          rcases Nat.lt_or_ge j old.length with hj | hj
          · rw [List.getElem?_append_left hj] at hv
            obtain ⟨r, h1, h2⟩ := hold.2 j v hv hu
            exact ⟨r, h1, by rw [List.getElem?_append_left (by omega)]; exact h2⟩
          · rw [List.getElem?_append_right hj] at hv
            obtain ⟨r, h1, h2⟩ := concs_get hrs _ v hv
            exact ⟨r, h1, by rw [List.getElem?_append_right (by omega), hold.1]; exact h2⟩
        obtain ⟨r, h1, h2⟩ := key
        refine ⟨r, h1, ?_⟩
        have hj := (List.getElem?_eq_some_iff.1 h2).1
        rw [Array.getElem?_append_left (by simpa using hj)]
        simpa using h2) _ (.inr rfl)
    rw [hl₁] at g1
    refine ⟨ρ', _, _, hrun, ?_, g2, keeps_then s₁ k₁ g3⟩
    rw [g1]
    simp only [Cap.at, hsize, Option.some.injEq, Value.slice.injEq, true_and]
    exact div_cap hs _ hcap
  cases x with
  | nils =>
    simp only at ha
    simp only [conc, Option.some.injEq] at hX
    split at ha
    · rename_i hn0
      simp only [Option.some.injEq, Prod.mk.injEq] at ha
      obtain ⟨rfl, rfl⟩ := ha
      subst hn0
      refine ⟨ρ, w, .slice none 0 0, ?_, rfl, s, Keeps.refl _ _ _⟩
      rw [← hX]
      exact app_in w w t u ty e i ht hu hi none 0 0 0 Y rs hlen hfw (Nat.le_refl _) rfl
    · rename_i hn0
      split at ha <;> try (cases ha; done)
      rename_i hb
      simp only [Option.some.injEq, Prod.mk.injEq] at ha
      obtain ⟨rfl, rfl⟩ := ha
      exact grown none 0 0 [] [] h hX.symm s (Keeps.refl _ _ _) rfl ⟨rfl, fun j v hv => by simp at hv⟩ (by simp) (by rw [← hX]; simp [Builtin.firstCells]) (by omega) hb.1 (by omega) (by rw [Nat.zero_add, nextslicecap_zero (by omega)]; exact hb.2.1) (by simp) (by simp)
  | sl bi o len cap =>
    simp only [conc, Option.map_eq_some_iff] at hX
    obtain ⟨p, hp, hXe⟩ := hX
    have hXp : conc ρ (.ptr bi o) = some (.pointer (some ⟨p.block, p.base + o, none⟩)) := by simp [conc, hp]
    cases cap with
    | exact cap =>
      simp only [Cap.at] at hXe
      simp only at ha
      split at ha
      · rename_i hfit
        split at ha
        · rename_i hemp
          simp only [Option.some.injEq, Prod.mk.injEq] at ha
          obtain ⟨rfl, rfl⟩ := ha
          subst hemp
          have hrn : rs = [] := List.length_eq_zero_iff.1 (by simpa using hnl)
          refine ⟨ρ, w, _, ?_, by simp [conc, hp, Cap.at]; rfl, s, Keeps.refl _ _ _⟩
          rw [← hXe]
          exact app_in w w t u ty e i ht hu hi _ len cap n Y rs hlen hfw hfit (by rw [hrn]; rfl)
        · simp only [Option.map_eq_some_iff, Prod.mk.injEq] at ha
          obtain ⟨h₁, hst, rfl, rfl⟩ := ha
          have hXp2 : conc ρ (.ptr bi (o + len * i.size)) = some (.pointer (some ⟨p.block, p.base + (o + len * i.size), none⟩)) := by simp [conc, hp]
          obtain ⟨b, o2, e1, e2, e3, e4⟩ := store_sim (P := P) s hst hXp2 hrs
          cases e1
          refine ⟨ρ, _, _, ?_, by simp [conc, hp, Cap.at]; rfl, e3, e4⟩
          rw [← hXe]
          exact app_in w _ t u ty e i ht hu hi _ len cap n Y rs hlen hfw hfit (by simp only; rw [Addr.add_lit, Nat.add_assoc]; exact e2)
      · rename_i hfit
        split at ha <;> try (cases ha; done)
        rename_i old hold
        split at ha <;> try (cases ha; done)
        rename_i hb
        simp only [Option.some.injEq, Prod.mk.injEq] at ha
        obtain ⟨rfl, rfl⟩ := ha
        obtain ⟨ho, q, os, hq, _, hos, hoc⟩ := load_sim s hold hXp
        cases hq
        have hol := concs_length hos
        exact grown _ len cap old os h hXe.symm s (Keeps.refl _ _ _) rfl ⟨concs_length hos, fun j v hv _ => concs_get hos j v hv⟩ (by omega) (by
            rw [← hXe]; simp only [Builtin.firstCells]; rw [show len * i.size = os.length by omega]
            exact run_loadCells_list w.drew _ os fun j v hv => hoc j v hv) (by omega) hb.1 hb.2.2
          (growslice_fits (by omega) hb.2.1) rfl rfl
    | grow s' =>
      simp only at ha
      split at ha <;> try (cases ha; done)
      rename_i b hb
      split at ha <;> try (cases ha; done)
      rename_i hcond
      obtain ⟨hkg, rfl, rfl, hs0, hbl, hnl2, hby, h63⟩ := hcond
      have hk := Kind.g_eq hkg
      have hlive : Live h bi b := hb
      obtain ⟨hblk, hbsz⟩ := s.blk bi b p hlive hp
      obtain ⟨hbase, -, c0, e0, fr0, hc0, hcs0, -⟩ := s.wr bi b p hlive hp (by rw [hk]; rfl)
      have hcell : ∀ j, w.cell? ⟨p.block, p.base + j, none⟩ = c0[j]? := by
        intro j
        unfold World.cell?
        simp [hc0, hbase]
      obtain ⟨os, hos1, hos2⟩ : ∃ os : List Value, os.length = b.cells.length ∧ ∀ j, j < b.cells.length → os[j]? = c0[j]? := ⟨c0.toList.take b.cells.length, by simp; omega, fun j hj => by rw [List.getElem?_take_of_lt hj]; simp⟩
      have hoc : ∀ (j : Nat) v, os[j]? = some v → w.cell? ((⟨p.block, p.base + 0, none⟩ : Addr).add j) = some v := by
        intro j v hv
        have hj : j < b.cells.length := by rw [← hos1]; exact (List.getElem?_eq_some_iff.1 hv).1
        rw [Addr.add_lit, Nat.add_zero, hcell, ← hos2 j hj]
        exact hv
      have hos : os.length = b.cells.length ∧ ∀ (j : Nat) (v : V), b.cells[j]? = some v → v ≠ .unk → ∃ r, conc ρ v = some r ∧ os[j]? = some r := by
        refine ⟨hos1, fun j v hv hu => ?_⟩
        have hj := (List.getElem?_eq_some_iff.1 hv).1
        obtain ⟨r, h1, h2⟩ := s.cells bi b p hlive hp (by rw [hk]; rfl) j v hv hu
        exact ⟨r, h1, by rw [hos2 j hj, ← hcell]; exact h2⟩
      simp only [Cap.at, Nat.sub_zero] at hXe
      have hle : len ≤ p.size / i.size := (Nat.le_div_iff_mul_le hs0).2 (by omega)
      split at ha
      · rename_i hn0
        simp only [Option.some.injEq, Prod.mk.injEq] at ha
        obtain ⟨rfl, rfl⟩ := ha
        subst hn0
        have hrn : rs = [] := List.length_eq_zero_iff.1 (by omega)
        refine ⟨ρ, w, _, ?_, by simp [conc, hp, Cap.at]; rfl, s, Keeps.refl _ _ _⟩
        rw [← hXe]
        have := app_in w w t u ty e i ht hu hi (some ⟨p.block, p.base + 0, none⟩) len (p.size / i.size) 0 Y rs hlen hfw (by omega) (by rw [hrn]; rfl)
        simpa using this
      · rename_i hn0
        simp only [Option.some.injEq, Prod.mk.injEq] at ha
        obtain ⟨rfl, rfl⟩ := ha
        by_cases hroom : len + n ≤ p.size / i.size
        · have hfit : b.cells.length + new.length ≤ p.size := by
            rw [hbl, hnl2, ← Nat.add_mul]
            exact (Nat.le_div_iff_mul_le hs0).1 hroom
          obtain ⟨g0, g1, g2, g3⟩ := grow_sim (P := P) s hlive hp hk hrs hone hfit
          refine ⟨_, _, .slice (some ⟨p.block, 0, none⟩) (len + n) (p.size / i.size), ?_, ?_, g2, g3⟩
          · rw [← hXe]
            have := app_in w (w.setCells p.block b.cells.length rs) t u ty e i ht hu hi (some ⟨p.block, p.base + 0, none⟩) len (p.size / i.size) n Y rs hlen hfw hroom (by
              simp only; rw [Addr.add_lit, g0, ← hbl]; simpa using g1)
            simpa [g0] using this
          · simp [conc, ← s.rlen, place_new, Cap.at, g0]
        · obtain ⟨q1, q2⟩ := kill_sim s bi
          exact grown _ len _ b.cells os (h.set bi none) hXe.symm q1 q2 (by simp) hos (by omega) (by
            rw [← hXe]; simp only [Builtin.firstCells]; rw [show len * i.size = os.length by omega]
            exact run_loadCells_list w.drew _ os fun j v hv => hoc j v hv) (by omega) hs0 h63 (growslice_fits (by omega) hby) rfl rfl
  | _ => simp at ha
end
end Go.Vs
namespace Go.Vs
variable {P : Program} {G : Nat → List V} {ρ : Rho} {h : Heap} {w : World} {tm : List V} {re : Operand → Value}
theorem cpy_sound (s : Sim G ρ h w) {t u ty e : TypeId} {n m : Nat} (ht : P.underlying t = some (.slice e)) (hs : isz P e = some n) {i o len : Nat} {cap : Cap} {y : V} {X Y : Value} (hX : conc ρ (.sl i o len cap) = some X) (hY : conc ρ y = some Y)
    (hm : lenV false y = some m) {cs : List V} (hcs : srcV G h n false y (min m len) = some cs) {h' : Heap} (hst : (cs = [] ∧ h' = h) ∨ stc h (.ptr i o) cs = some h') :
    ∃ w', (Builtin.copy_ #[t, u] ty #[X, Y]).run P w = .ok (.int .i64 (min m len : Nat)) w' ∧ Sim G ρ h' w' ∧ Keeps ρ h w ρ h' w' := by
  obtain ⟨hlen, rs, hrs, hrl, hf⟩ := src_sound (P := P) s hY (by simp) hm (Nat.min_le_left _ _) hcs
  have hfw := hf w fun _ _ _ => rfl
  simp only [conc, Option.map_eq_some_iff] at hX
  obtain ⟨p, hp, rfl⟩ := hX
  have hXp : conc ρ (.ptr i o) = some (.pointer (some ⟨p.block, p.base + o, none⟩)) := by simp [conc, hp]
  have base : ∀ w', (storeCells ⟨p.block, p.base + o, none⟩ rs).run P w = .ok () w' → (Builtin.copy_ #[t, u] ty #[.slice (some ⟨p.block, p.base + o, none⟩) len (cap.at p o), Y]).run P w = .ok (.int .i64 (min m len : Nat)) w' := by
    intro w' hw'
    have : Nat.min m len = min m len := rfl
    simp [Builtin.copy_, run_underlying ht, hlen, isz_spec hs, this, hfw, hw', goInt]
  rcases hst with ⟨rfl, rfl⟩ | hst
  · simp only [concs, Option.some.injEq] at hrs
    subst hrs
    exact ⟨w, base w rfl, s, Keeps.refl _ _ _⟩
  · obtain ⟨b, o2, e1, e2, e3, e4⟩ := store_sim (P := P) s hst hXp hrs
    cases e1
    exact ⟨_, base _ e2, e3, e4⟩
theorem u8s_sound {ρ : Rho} : ∀ {l : List V} {ns : List Int} {r : List Value}, u8s l = some ns → concs ρ l = some r → r = ns.map (Value.int .u8)
  | [], ns, r, h, hc => by
    simp only [u8s, Option.some.injEq] at h; subst h
    simp only [concs, Option.some.injEq] at hc; subst hc; rfl
  | v :: l, ns, r, h, hc => by
    obtain ⟨x, y, hx, hy, rfl⟩ := concs_cons.1 hc
    have key : ∃ n m, v = .int .u8 n ∧ u8s l = some m ∧ ns = n :: m := by
      unfold u8s at h
      split at h
      · rename_i e; cases e
      · rename_i n l' e
        cases e
        simp only [Option.map_eq_some_iff] at h
        obtain ⟨m, hm, rfl⟩ := h
        exact ⟨n, m, rfl, hm, rfl⟩
      · cases h
    obtain ⟨n, m, rfl, hm, rfl⟩ := key
    simp only [conc, Option.some.injEq] at hx; subst hx
    rw [u8s_sound hm hy]; rfl
theorem bsl_len {z : List V} {s len : Nat} (hz : z.length = s) : ((List.replicate len z).flatten).length = len * s := by simp [hz]
set_option maxHeartbeats 1000000 in
theorem exo_sound (s : Sim G ρ h w) (he : EvRel ρ tm re) {o : Oper} {vo : VOp} (hc : cO P o.op = some vo) {v : V} {h' : Heap} (hv : exo G tm h vo = some (v, h')) : Snd P G ρ h w re o v h' := by
  obtain ⟨dst, op, ty, pos, after, guard⟩ := o
  simp only at hc
  have pure : ∀ (po : POp), (cP P op = some po) → vo = .p po → Snd P G ρ h w re ⟨dst, op, ty, pos, after, guard⟩ v h' := by
    rintro po hpo rfl
    simp only [exo, Option.map_eq_some_iff, Prod.mk.injEq] at hv
    obtain ⟨u, hu, rfl, rfl⟩ := hv
    obtain ⟨r, h1, h2⟩ := expo_sound (P := P) he (o := ⟨dst, op, ty, pos, after, guard⟩) hpo hu w
    exact Snd.pure s h1 h2
  have plain : (cP P op).map VOp.p = some vo → Snd P G ρ h w re ⟨dst, op, ty, pos, after, guard⟩ v h' := by
    intro hm
    simp only [Option.map_eq_some_iff] at hm
    obtain ⟨po, h1, h2⟩ := hm
    exact pure po h1 h2.symm
  have hc0 := hc
  cases op
  case convert t u x =>
    simp only [cO] at hc
    split at hc
    case h_2 =>
      split at hc
      · rename_i po hpo
        exact pure po hpo (Option.some.inj hc).symm
      · simp only [Option.some.injEq] at hc
        subst hc
        cases hv
    rename_i e ht hu
    split at hc <;> try (cases hc; done)
    rename_i hb
    simp only [Option.map_eq_some_iff] at hc
    obtain ⟨x', hx, rfl⟩ := hc
    simp only [exo] at hv
    split at hv <;> try (cases hv; done)
    · rename_i hev
      simp only [Option.some.injEq, Prod.mk.injEq] at hv
      obtain ⟨rfl, rfl⟩ := hv
      have hX := opU he hx hev (by simp)
      simp only [conc, Option.some.injEq] at hX
      refine Snd.pure s (r := .string .empty) ?_ rfl
      simp [execOp, ← hX, run_convert_bytes_string _ _ _ _ _ _ _ ht hb hu, Conv.bytesToString]
    · rename_i i o n c hev
      split at hv <;> try (cases hv; done)
      rename_i l hl
      simp only [Option.map_eq_some_iff, Prod.mk.injEq] at hv
      obtain ⟨ns, hns, rfl, rfl⟩ := hv
      have hX := opU he hx hev (by simp)
      simp only [conc, Option.map_eq_some_iff] at hX
      obtain ⟨p, hp, hX⟩ := hX
      obtain ⟨hlen, q, r, hq, hsp, hr, hcell⟩ := load_sim s hl (x := .pointer (some ⟨p.block, p.base + o, none⟩)) (by simp [conc, hp])
      cases hq
      have hrv := u8s_sound hns hr
      have hrl := concs_length hr
      refine Snd.pure s (r := .string (bstr ns)) ?_ rfl
      have hload := run_loadCells_list (P := P) w ⟨p.block, p.base + o, none⟩ r hcell
      rw [hrl, hlen, hrv] at hload
      have hrun := run_bytesToString (P := P) w ⟨p.block, p.base + o, none⟩ n (c.at p o) ns hload
      simp only [execOp, ← hX, Sem.run_bind, run_convert_bytes_string _ _ _ _ _ _ _ ht hb hu, hrun, Result.andThen_ok, Sem.run_pure, bstr]
  case load t a =>
    simp only [cO, Option.bind_eq_some_iff] at hc
    obtain ⟨agg, hagg, n, hn, hc⟩ := hc
    split at hc <;> try (cases hc; done)
    rename_i hor
    simp only [Option.map_eq_some_iff] at hc
    obtain ⟨a', ha, rfl⟩ := hc
    simp only [exo] at hv
    split at hv <;> try (cases hv; done)
    rename_i l hl
    have fin : ((agg = true ∧ v = .agg l) ∨ (agg = false ∧ l = [v])) → h' = h → Snd P G ρ h w re ⟨dst, .load t a, ty, pos, after, guard⟩ v h' := by
      rintro hvv rfl
      obtain ⟨r, h1, h2⟩ := ld_sound (P := P) s he hagg hn hor ha hl hvv
      exact Snd.pure s (by simp [execOp, h1]) h2
    split at hv
    · rename_i hag
      simp only [Option.some.injEq, Prod.mk.injEq] at hv
      exact fin (.inl ⟨hag, hv.1.symm⟩) hv.2.symm
    · rename_i hag
      split at hv <;> try (cases hv; done)
      simp only [Option.some.injEq, Prod.mk.injEq] at hv
      exact fin (.inr ⟨by simpa using hag, by rw [hv.1]⟩) hv.2.symm
  case alloc t =>
    simp only [cO, Option.map_eq_some_iff] at hc
    obtain ⟨z, hz, rfl⟩ := hc
    simp only [exo, Option.some.injEq, Prod.mk.injEq] at hv
    obtain ⟨rfl, rfl⟩ := hv
    obtain ⟨i, zv, hi, hzv, hcz⟩ := zer_spec hz
    obtain ⟨ρ', w', g1, g2, g3, g4⟩ := var_sound (P := P) s t (hcz ρ)
    refine ⟨ρ', w', _, .inl ?_, g2, g3, g4⟩
    simp [execOp, Instr.alloc, zeroValue, typeInfo, hi, hzv, g1]
  case box t x =>
    simp only [cO, Option.map_eq_some_iff] at hc
    obtain ⟨a, ha, rfl⟩ := hc
    simp only [exo, Option.map_eq_some_iff, Prod.mk.injEq] at hv
    obtain ⟨u, hu, rfl, rfl⟩ := hv
    obtain ⟨ρ', w', g1, g2, g3, g4⟩ := var_sound (P := P) s t (cells_conc (opK he ha hu))
    refine ⟨ρ', w', _, .inl ?_, g2, g3, g4⟩
    simp [execOp, Instr.box, g1]
  case store t a x =>
    simp only [cO, Option.bind_eq_some_iff, Option.map_eq_some_iff] at hc
    obtain ⟨n, hn, a', ha, x', hx, rfl⟩ := hc
    simp only [exo] at hv
    split at hv <;> try (cases hv; done)
    rename_i u hu
    split at hv <;> try (cases hv; done)
    rename_i hsz
    simp only [Option.map_eq_some_iff, Prod.mk.injEq] at hv
    obtain ⟨h₁, hst, rfl, rfl⟩ := hv
    obtain ⟨w', g1, g2, g3⟩ := st_sound (P := P) s he hn ha hx hu hsz hst
    exact ⟨ρ, w', undef, .inr ⟨by simp [execOp, g1], rfl⟩, undef_conc ρ, g2, g3⟩
  case slice t x lo hi mx =>
    simp only [cO] at hc
    split at hc
    case h_2 => exact plain hc
    rename_i e hu
    simp only [Option.bind_eq_some_iff, Option.map_eq_some_iff] at hc
    obtain ⟨sz, hsz, x', hx, lo', hlo, hi', hhi, mx', hmx, rfl⟩ := hc
    simp only [exo] at hv
    split at hv
    case h_2 =>
      simp only [Option.map_eq_some_iff, Prod.mk.injEq] at hv
      obtain ⟨u, hu', rfl, rfl⟩ := hv
      obtain ⟨r, h1, h2⟩ := expo_sound (P := P) he (o := ⟨dst, .slice t x lo hi mx, ty, pos, after, guard⟩) (po := .sle sz x' lo' hi' mx') (by simp [cP, hx, hlo, hhi, hmx, hu, hsz]) hu' w
      exact Snd.pure s h1 h2
    rename_i i o len s' hev
    split at hv <;> try (cases hv; done)
    rename_i b hb
    have hX := opU he hx hev (by simp)
    simp only [conc, Option.map_eq_some_iff] at hX
    obtain ⟨p, hp, hr⟩ := hX
    have hbs := (s.blk i b p hb hp).2
    split at hv <;> try (cases hv; done)
    · rename_i l e2 hl he2 hmn
      split at hv <;> try (cases hv; done)
      rename_i hcond
      obtain ⟨rfl, hs0, hfit, h0, hle, hel, hlz⟩ := hcond
      simp only [Option.some.injEq, Prod.mk.injEq] at hv
      obtain ⟨rfl, rfl⟩ := hv
      obtain ⟨m1, m2⟩ := cOpt_map he hlo hl
      obtain ⟨m3, m4⟩ := cOpt_map he hhi he2
      have mxn : mx = none := by
        cases mx with
        | none => rfl
        | some y => simp only [cOpt, Option.map_eq_some_iff] at hmx; obtain ⟨q, _, rfl⟩ := hmx; simp [optM] at hmn
      subst mxn
      have hcap : len ≤ (p.size - o) / s' := (Nat.le_div_iff_mul_le hs0).2 (by omega)
      have hsb := sliceBounds_sound (P := P) true (len := len) (cap := (p.size - o) / s') (mx := none) (m := ((p.size - o) / s' : Nat)) m1 m3 (.inl ⟨rfl, rfl⟩) (.inr rfl) (by omega) (by omega) (by omega) (by omega) h0 hle w
      refine Snd.pure s (r := .slice (some ⟨p.block, p.base + (o + l.toNat * s'), none⟩) (e2 - l).toNat ((p.size - o) / s' - l.toNat)) ?_ ?_
      · simp only [execOp, Sem.run_bind, Instr.sliceAt, run_underlying hu, Result.andThen_ok, Instr.slice, ← hr, Cap.at, Option.map_none, hsb, isz_spec hsz, Sem.run_pure]
        have := slice_off (a := ⟨p.block, p.base + o, none⟩) rfl s' h0 (show l ≤ (((p.size - o) / s' : Nat) : Int) by omega)
        simp only [Int.toNat_natCast] at this
        congr 3
        congr 1
        · have e3 : (if l = 0 then 0 else if (((p.size - o) / s' : Nat) : Int) = l then 0 else l.toNat * s') = l.toNat * s' := by
            by_cases hl0 : l = 0
            · subst hl0; simp
            · rcases hlz with hlz | hlz | hlz
              · exact absurd hlz hl0
              · rw [if_neg hl0, if_neg (by omega)]
              · have hcap2 : len + 1 ≤ (p.size - o) / s' := (Nat.le_div_iff_mul_le hs0).2 (by omega)
                rw [if_neg hl0, if_neg (by omega)]
          rw [e3] at this
          rw [← Nat.add_assoc, ← this]
          simp only [Int.toNat_natCast]
          split <;> rfl
        · omega
      · have e4 : (p.size - (o + l.toNat * s')) / s' = (p.size - o) / s' - l.toNat := by
          rw [← Nat.sub_sub, Nat.mul_comm, Nat.sub_mul_div]
        simp [conc, hp, Cap.at, e4]
    · rename_i l e2 m hl he2 hm
      split at hv <;> try (cases hv; done)
      rename_i hcond
      obtain ⟨rfl, hs0, hhs, hfit, h0, hle, hem, hml⟩ := hcond
      simp only [Option.some.injEq, Prod.mk.injEq] at hv
      obtain ⟨rfl, rfl⟩ := hv
      obtain ⟨m1, m2⟩ := cOpt_map he hlo hl
      obtain ⟨m3, m4⟩ := cOpt_map he hhi he2
      obtain ⟨mA, hmA, hmA'⟩ : ∃ mA, mx' = some mA ∧ asN (ev tm mA) = some m := by
        cases mx' with
        | none => simp [optM] at hm
        | some y => simp only [optM, Option.map_eq_some_iff, Option.some.injEq] at hm; obtain ⟨q, h1, rfl⟩ := hm; exact ⟨y, rfl, h1⟩
      subst hmA
      obtain ⟨m5, m6⟩ := cOpt_map he hmx (d := 0) (n := m) (by simpa [optA] using hmA')
      have hcap : len ≤ (p.size - o) / s' := (Nat.le_div_iff_mul_le hs0).2 (by omega)
      have m5' : (mx.map re = none ∧ m = (((p.size - o) / s' : Nat) : Int)) ∨ ∃ k, mx.map re = some (.int k m) := by
        rcases m5 with ⟨a1, _⟩ | a1
        · simp [a1] at m6
        · exact .inr a1
      have hsb := sliceBounds_sound (P := P) true (len := len) (cap := (p.size - o) / s') m1 m3 m5' (.inl (by rw [m4]; exact hhs)) (by omega) (by omega) (by omega) hem h0 hle w
      refine Snd.pure s (r := .slice (some ⟨p.block, p.base + o + (if l = 0 then 0 else if m = l then 0 else l.toNat * s'), none⟩) (e2 - l).toNat (m - l).toNat) ?_ ?_
      · simp only [execOp, Sem.run_bind, Instr.sliceAt, run_underlying hu, Result.andThen_ok, Instr.slice, ← hr, Cap.at, hsb, isz_spec hsz, Sem.run_pure]
        have := slice_off (a := ⟨p.block, p.base + o, none⟩) rfl s' h0 (show l ≤ m by omega)
        congr 3
        congr 1
        · rw [← this]; split <;> rfl
        · omega
        · omega
      · simp [conc, hp, Cap.at, Nat.add_assoc]
  case buildSlice t len ps =>
    simp only [cO] at hc
    split at hc <;> try (cases hc; done)
    rename_i e hu
    simp only [Option.bind_eq_some_iff] at hc
    obtain ⟨sz, hsz, z, hz, hc⟩ := hc
    split at hc <;> try (cases hc; done)
    rename_i hcond
    simp only [Option.map_eq_some_iff] at hc
    obtain ⟨l, hl, rfl⟩ := hc
    simp only [exo, Option.map_eq_some_iff, Prod.mk.injEq] at hv
    obtain ⟨cs, hcs, rfl, rfl⟩ := hv
    obtain ⟨i, zv, hi, hzv, hcz⟩ := zer_spec hz
    have hzl := concs_length (hcz ρ)
    have hzsz : zv.cells.size = sz := by simp at hzl; omega
    have hmade : concs ρ (List.replicate len z).flatten = some (madeCells zv.cells (len * sz)).toList := by
      refine concs_of_get (by rw [bsl_len hcond.2, Array.length_toList, size_madeCells]) fun j u hu' => ?_
      obtain ⟨r, h1, h2⟩ := made_conc (hcz ρ) len j u hu'
      rw [hcond.2] at h2
      exact ⟨r, h1, by simpa using h2⟩
    obtain ⟨D, hD, hcD⟩ := fill_sound he ps.toList l hl _ _ hmade cs hcs
    have hDl := concs_length hcD
    obtain ⟨ρ', g1, g2, g3⟩ := row_sound s e (cs := cs) (rs := D) .rw len (.exact len) (by simp at hDl; omega) (fun j u hu' _ => by obtain ⟨x, hx, hx'⟩ := concs_get hcD j u hu'; exact ⟨x, hx, by simpa using hx'⟩) _ (.inl rfl)
    refine ⟨ρ', _, _, .inl ?_, g1, g2, g3⟩
    have h24 : ¬ (len * sz > 2 ^ 24) := by have := hcond.1; omega
    have hfill : Instr.fill (fun i => some (i * sz, sz)) (Array.map (fun x => if len * sz = 0 then (#[] : Array Value)[x % 0]! else zv.cells[x % zv.cells.size]!) (Array.range (len * sz))) (ps.toList.map fun p => (p.1, re p.2)) = some D := by
      rw [← hD]
      congr 1
      by_cases h0 : len * sz = 0
      · rw [h0]; simp [madeCells]
      · simp [madeCells, h0]
    by_cases h0 : len * sz = 0
    · simp only [h0, if_true] at hfill
      simp only [execOp, Sem.run_bind, Instr.buildSlice, run_underlying hu, Result.andThen_ok, isz_spec hsz, Sem.run_ite, if_neg h24, h0, if_true, Sem.run_pure, Array.toList_map, Cap.at]
      simp only [Array.size_empty]
      rw [hfill]
      simp only [Sem.run_bind, newRow, run_newObj, Result.andThen_ok, Sem.run_pure]
      rfl
    · simp only [h0, if_false] at hfill
      simp only [execOp, Sem.run_bind, Instr.buildSlice, run_underlying hu, Result.andThen_ok, isz_spec hsz, Sem.run_ite, if_neg h24, h0, if_false, Sem.run_pure, Array.toList_map, Cap.at, zeroValue, typeInfo, run_program, hi, hzv]
      rw [hfill]
      simp only [Sem.run_bind, newRow, run_newObj, Result.andThen_ok, Sem.run_pure]
      rfl
  case makeSlice t l c =>
    simp only [cO] at hc
    split at hc <;> try (cases hc; done)
    rename_i e hu
    simp only [Option.bind_eq_some_iff] at hc
    obtain ⟨i, hi, z, hz, hc⟩ := hc
    split at hc <;> try (cases hc; done)
    rename_i hzl
    simp only [Option.bind_eq_some_iff, Option.map_eq_some_iff] at hc
    obtain ⟨l', hl, c', hcc, rfl⟩ := hc
    simp only [exo] at hv
    split at hv <;> try (cases hv; done)
    rename_i L C hL hC
    split at hv <;> try (cases hv; done)
    rename_i hcond
    obtain ⟨h0, hlc, hby, h63⟩ := hcond
    simp only [Option.some.injEq, Prod.mk.injEq] at hv
    obtain ⟨rfl, rfl⟩ := hv
    obtain ⟨i', zv, hi', hzv, hcz⟩ := zer_spec hz
    rw [hi] at hi'; cases hi'
    obtain ⟨k1, e1, _⟩ := opI he hl hL
    obtain ⟨k2, e2, _⟩ := opI he hcc hC
    have hrun := run_make w t e i zv hu hi hzv k1 k2 L C h0 hlc hby h63
    obtain ⟨ρ', g1, g2, g3⟩ := row_sound s e (cs := (List.replicate C.toNat z).flatten) (rs := madeCells zv.cells (C.toNat * i.size)) .rw L.toNat (.exact C.toNat)
      (by rw [bsl_len hzl, size_madeCells]; exact Nat.le_refl _) (fun j u hu' _ => by obtain ⟨r, h1, h2⟩ := made_conc (hcz ρ) C.toNat j u hu'; exact ⟨r, h1, by rw [hzl] at h2; exact h2⟩) _ (.inl rfl)
    exact ⟨ρ', _, _, .inl (by simp only [execOp, Sem.run_bind, e1, e2, hrun, Result.andThen_ok, Sem.run_pure]; rfl), g1, g2, g3⟩
  case call c =>
    obtain ⟨callee, args, ts⟩ := c
    cases callee with
    | builtin bi =>
      cases bi
      case append =>
        simp only [cO] at hc
        split at hc <;> try (cases hc; done)
        rename_i x y t u h1 h2
        have e1 : args = #[x, y] := by apply Array.ext'; simpa using h1
        have e2 : ts = #[t, u] := by apply Array.ext'; simpa using h2
        subst e1; subst e2
        split at hc <;> try (cases hc; done)
        rename_i e hu
        simp only [Option.bind_eq_some_iff] at hc
        obtain ⟨i, hi, z, hz, hc⟩ := hc
        split at hc <;> try (cases hc; done)
        rename_i hcond
        simp only [Option.bind_eq_some_iff] at hc
        obtain ⟨x', hx, y', hy, hc⟩ := hc
        obtain ⟨i', zv, hi', hzv, hcz⟩ := zer_spec hz
        rw [hi] at hi'; cases hi'
        have hzl := concs_length (hcz ρ)
        have hzs : zv.cells.size = i.size := by simp at hzl; omega
        have fin : ∀ (str : Bool), (str = true → i.size = 1) → SrcT P u → appV G h i.size i.bytes str (ev tm x') (ev tm y') = some (v, h') → Snd P G ρ h w re ⟨dst, .call ⟨.builtin .append, #[x, y], #[t, u]⟩, ty, pos, after, guard⟩ v h' := by
          intro str hstr hsrc ha
          have n1 : ev tm x' ≠ .unk := fun e' => by
            rw [e'] at ha; unfold appV at ha
            split at ha <;> try (cases ha; done)
            split at ha <;> try (cases ha; done)
            split at ha <;> cases ha
          have n2 : ev tm y' ≠ .unk := fun e' => by
            rw [e'] at ha; unfold appV lenV at ha
            cases str <;> simp [asS] at ha
          obtain ⟨ρ', w', r, g1, g2, g3, g4⟩ := app_sound (P := P) s (ty := ty) hu hsrc hi hzv hzs hstr (opU he hx rfl n1) (opU he hy rfl n2) ha
          exact ⟨ρ', w', r, .inl (by simp [execOp, resolve, invoke, builtin, g1]), g2, g3, g4⟩
        split at hc <;> try (cases hc; done)
        · rename_i e' hu'
          simp only [Option.some.injEq] at hc; subst hc
          exact fin false (by simp) (.inl ⟨e', hu'⟩) hv
        · rename_i hu'
          split at hc <;> try (cases hc; done)
          rename_i h1s
          simp only [Option.some.injEq] at hc; subst hc
          exact fin true (fun _ => h1s) (.inr hu') (by rw [h1s]; exact hv)
      case copy =>
        simp only [cO] at hc
        split at hc <;> try (cases hc; done)
        rename_i x y t u h1 h2
        have e1 : args = #[x, y] := by apply Array.ext'; simpa using h1
        have e2 : ts = #[t, u] := by apply Array.ext'; simpa using h2
        subst e1; subst e2
        split at hc <;> try (cases hc; done)
        rename_i e hu
        simp only [Option.bind_eq_some_iff, Option.map_eq_some_iff] at hc
        obtain ⟨n, hn, x', hx, y', hy, rfl⟩ := hc
        simp only [exo] at hv
        split at hv <;> try (cases hv; done)
        rename_i i o len cap m hev hm
        have hX := opU he hx hev (by simp)
        have n2 : ev tm y' ≠ .unk := fun e' => by rw [e'] at hm; simp [lenV] at hm
        have hY := opU he hy rfl n2
        split at hv <;> try (cases hv; done)
        · rename_i hcs
          simp only [Option.some.injEq, Prod.mk.injEq] at hv
          obtain ⟨rfl, rfl⟩ := hv
          obtain ⟨w', g1, g2, g3⟩ := cpy_sound (P := P) s (u := u) (ty := ty) hu hn hX hY hm hcs (.inl ⟨rfl, rfl⟩)
          exact ⟨ρ, w', _, .inl (by simp only [execOp, Sem.run_bind, resolve, Sem.run_pure, Result.andThen_ok, invoke, builtin, List.map_toArray, List.map_cons, List.map_nil, g1]), rfl, g2, g3⟩
        · rename_i cs hne hcs
          simp only [Option.map_eq_some_iff, Prod.mk.injEq] at hv
          obtain ⟨h₁, hst, rfl, rfl⟩ := hv
          obtain ⟨w', g1, g2, g3⟩ := cpy_sound (P := P) s (u := u) (ty := ty) hu hn hX hY hm hcs (.inr hst)
          exact ⟨ρ, w', _, .inl (by simp only [execOp, Sem.run_bind, resolve, Sem.run_pure, Result.andThen_ok, invoke, builtin, List.map_toArray, List.map_cons, List.map_nil, g1]), rfl, g2, g3⟩
      all_goals exact plain (by simpa [cO] using hc0)
    | value f => exact plain (by simpa [cO] using hc0)
    | invoke r m => exact plain (by simpa [cO] using hc0)
  all_goals exact plain (by simpa [cO] using hc0)
end Go.Vs
namespace Go.Vs
variable {P : Program} {G : Nat → List V}
inductive Cal where
  | fn (f : FuncId)
  | val (a : A)
  | inv (a : A) (name : String)
inductive VI where
  | op (d : Option Nat) (g : Option (Nat × Bool)) (o : VOp)
  | call (d : Option Nat) (g : Option (Nat × Bool)) (c : Cal) (xs : List A)
  | dfr (d : Option Nat) (x : A)
structure DS where
  i : Nat
  fl : Bool
  vi : VI
  loads : List Nat
  allocs : List Nat
inductive VC where
  | skip
  | reg (l : List VI)
  | drw (l : List DS)
  | seq (a b : VC)
  | cond (c : A) (a b : VC)
  | block (id : Nat) (c : VC)
  | loop (c : VC)
  | exit (id : Nat)
  | scope (c : VC)
  | ret
  | rng (g : A) (ps : List Nat) (a c : VC)
  | bad
def cCal : Callee → Option Cal
  | .value (.func f) => some (.fn f)
  | .value x => (cA x).map .val
  | .invoke x m => (cA x).map fun a => .inv a m
  | .builtin _ => none
def cGuard (ops : Array Oper) : Option (Nat × Bool) → Option (Option (Nat × Bool))
  | none => some none
  | some (j, b) => match (ops[j]?).bind (·.dst) with
    | some d => some (some (d, b))
    | none => none
def cI (P : Program) (ops : Array Oper) (o : Oper) : Option VI :=
  match cGuard ops o.guard with
  | none => none
  | some g => match cO P o.op with
    | some vo => some (.op o.dst g vo)
    | none => match o.op with
      | .call c => match cCal c.callee, cAs c.args.toList with
        | some cal, some xs => some (.call o.dst g cal xs)
        | _, _ => none
      | .defer c => match g, c.callee, c.args.toList with
        | none, .value x, [] => (cA x).map (.dfr o.dst)
        | _, _, _ => none
      | _ => none
def cIs (P : Program) (ops : Array Oper) : List Oper → Option (List VI)
  | [] => some []
  | o :: r => match cI P ops o, cIs P ops r with
    | some i, some l => some (i :: l)
    | _, _ => none
def setd (tm : List V) (d : Option Nat) (v : V) : List V := match d with
  | some d => tm.set d v
  | none => tm
def wantV (tm : List V) : Option (Nat × Bool) → Option Bool
  | none => some true
  | some (t, b) => match tm.getD t .unk with
    | .bool c => some (c == b)
    | .tup [] => some false
    | _ => none
structure St where
  tmps : List V
  heap : Heap
inductive TI where
  | c (vc : VC)
  | b (id : Nat)
  | l (c : VC)
  | s
  | r (l : List VI)
  | beg
theorem yielded_rel {ρ : Rho} {tm : List V} {t : Array Value} (ht : TRel ρ tm t) {ops : Array Oper} {j d : Nat} (hd : (ops[j]?).bind (·.dst) = some d) {b c : Bool} (hw : wantV tm (some (d, b)) = some c) : (yielded ops t j == some b) = c := by
  unfold wantV at hw
  simp only at hw
  have hlt : ∀ u, tm.getD d .unk = u → u ≠ .unk → ∃ r, conc ρ u = some r ∧ t[d]? = some r := by
    intro u hu hne
    cases he : tm[d]? with
    | none => simp [List.getD, he] at hu; exact absurd hu.symm hne
    | some x =>
      simp only [List.getD, he, Option.getD_some] at hu
      subst hu
      exact ht.2 d x he hne
  split at hw
  · rename_i c' hc
    simp only [Option.some.injEq] at hw
    obtain ⟨r, h1, h2⟩ := hlt _ hc (by simp)
    simp only [conc, Option.some.injEq] at h1
    subst h1
    unfold yielded
    rw [hd, Option.bind_some, h2]
    cases c' <;> cases b <;> simp_all
  · rename_i hc
    simp only [Option.some.injEq] at hw
    obtain ⟨r, h1, h2⟩ := hlt _ hc (by simp)
    simp [conc, concs] at h1
    subst h1
    unfold yielded
    rw [hd, Option.bind_some, h2]
    subst hw
    rfl
  · cases hw
structure Md where
  ri : Option Nat := none
  df : Option FuncId := none
def rdOf (ri : Option Nat) (ρ : Rho) : Option Nat := ri.bind fun i => (place ρ i).map (·.block)
def fw (rd : Option Nat) : Fence := { Fence.wide with round := rd }
theorem steps_fw {rd : Option Nat} {m m' : Machine} : StepsIn (Machine.fenced P (fw rd)) P m m' ↔ Steps P m m' := stepsIn_wide
theorem callsIn_fw {rd : Option Nat} {n : Nat} {f : FuncId} {args : Array Value} {w : World} {R : Ending → World → Prop} (h : Calls P f args w R) : CallsIn (fw rd) n P f args w R := by
  cases rd with
  | none => exact callsIn_wide.2 h
  | some l => exact CallsIn.inRound l (callsIn_wide.2 h)
theorem room_fw {rd : Option Nat} {n : Nat} : (fw rd).room n := fun d hd => by cases hd
def Goal (P : Program) (f : FuncId) (rd : Option Nat) (R : Ending → World → Prop) (cs : List Frame) (m : Machine) : Prop :=
  match rd with
  | none => ∃ e w' fr, R e w' ∧ Comes P m (lone fr cs w') e ∧ fr.fn = f ∧ fr.leaving P w' e
  | some _ => ∀ c cs', cs = c :: cs' → ∃ v w', R (.returned v) w' ∧ Steps P m (lone (c.finish v) cs' w')
theorem Goal.steps {f : FuncId} {rd : Option Nat} {R : Ending → World → Prop} {cs : List Frame} {m m' : Machine} (hs : Steps P m m') (h : Goal P f rd R cs m') : Goal P f rd R cs m := by
  cases rd with
  | none =>
    obtain ⟨e, w2, fr, hR, hc, hf, hl⟩ := h
    exact ⟨e, w2, fr, hR, Comes.of_steps hs hc, hf, hl⟩
  | some l =>
    intro c cs' e
    obtain ⟨v, w', hR, h2⟩ := h c cs' e
    exact ⟨v, w', hR, Steps.trans hs h2⟩
def Fin (P : Program) (f : FuncId) (rd : Option Nat) (R : Ending → World → Prop) (todo : List Item) (a : Act) (w : World) : Prop :=
  ∀ (b : Frame) (cs : List Frame), b.fn = f → b.kind = .normal → b.roundOf = rd → Goal P f rd R cs (lone (b.atR a todo) cs w)
theorem Fin.step {f : FuncId} {rd : Option Nat} {R : Ending → World → Prop} {todo todo' : List Item} {a a' : Act} {w w' : World} (hs : ∀ (b : Frame) (cs : List Frame), b.roundOf = rd → Steps P (lone (b.atR a todo) cs w) (lone (b.atR a' todo') cs w')) (h : Fin P f rd R todo' a' w') : Fin P f rd R todo a w :=
  fun b cs hb hk hr => (h b cs hb hk hr).steps (hs b cs hr)
def Nrm (K : Act → World → Prop) : Exit → Act → World → Prop
  | .normal, a, w => K a w
  | _, _, _ => False
theorem Fin.of_wp {f : FuncId} {rd : Option Nat} {R : Ending → World → Prop} {c : Code} {todo : List Item} {a : Act} {w : World} (h : c.wpIn (fw rd) 0 P (Nrm (Fin P f rd R todo)) a w) : Fin P f rd R (.code c :: todo) a w := by
  intro b cs hb hk hr
  obtain ⟨e, a', w', hq, harr⟩ := h b todo cs hr trivial room_fw
  cases e <;> simp only [Nrm] at hq
  exact (hq b cs hb hk hr).steps (steps_fw.1 harr)
theorem calls_of_fin {f : FuncId} {fn : Func} {c : Code} {args : Array Value} {w : World} {R : Ending → World → Prop} (hf : P.funcs[f]? = some fn) (hb : fn.body = some c)
    (h : Fin P f none R [.code c] { tmps := args ++ Array.replicate (fn.ntmps - args.size) undef, defers := [] } w) : Calls P f args w R := by
  intro cs
  let b : Frame := { (default : Frame) with fn := f, kind := .normal, roundOf := none }
  have henter : Frame.enter P f args .normal = b.atR { tmps := args ++ Array.replicate (fn.ntmps - args.size) undef, defers := [] } [.code c] := by
    simp [Frame.enter, Frame.atR, hf, hb, b]
  obtain ⟨e, w', fr, hR, hc, hfn, hl⟩ := h b cs rfl rfl rfl
  exact ⟨e, w', fr, hR, by rw [henter]; exact hc, hfn, hl⟩
def Dfr (w₀ w : World) (ds : List Deferred) : Prop := ∃ L : List Nat, L.Nodup ∧ ds = L.map (fun D => { target := .collected D, args := #[] }) ∧ ∀ D ∈ L, w₀.heap.size ≤ D ∧ w.heap[D]? = some (.deferred (some []))
theorem Dfr.nil (w₀ w : World) : Dfr w₀ w [] := ⟨[], List.nodup_nil, rfl, fun _ h => by cases h⟩
def shut (w : World) : List Nat → World
  | [] => w
  | D :: L => shut (w.putObj D (.deferred none)) L
theorem shut_other : ∀ (L : List Nat) (w : World) (b : Nat), b ∉ L → (shut w L).heap[b]? = w.heap[b]?
  | [], _, _, _ => rfl
  | D :: L, w, b, h => by
    simp only [List.mem_cons, not_or] at h
    rw [shut, shut_other L _ b h.2, World.putObj_heap_other h.1]
theorem shut_same : ∀ (L : List Nat) (w : World), (shut w L).tape = w.tape ∧ (shut w L).os = w.os ∧ (shut w L).output = w.output ∧ (shut w L).heap.size = w.heap.size
  | [], _ => ⟨rfl, rfl, rfl, rfl⟩
  | D :: L, w => by
    obtain ⟨h1, h2, h3, h4⟩ := shut_same L (w.putObj D (.deferred none))
    exact ⟨h1, h2, h3, by rw [shut, h4]; simp⟩
theorem steps_markst (tl : List Deferred) : ∀ (L : List Nat) (w : World) (fr : Frame) (cs : List Frame), L.Nodup → fr.mode = .returning → fr.defers = L.map (fun D => { target := .collected D, args := #[] }) ++ tl → (∀ D ∈ L, w.heap[D]? = some (.deferred (some []))) →
    Steps P (lone fr cs w) (lone { fr with defers := tl } cs (shut w L))
  | [], w, fr, cs, _, _, hd, _ => by
    have : { fr with defers := tl } = fr := by cases fr; simp at hd ⊢; exact hd.symm
    rw [this, shut]
    exact Steps.refl _ _
  | D :: L, w, fr, cs, hn, hm, hd, hk => by
    rw [List.map_cons, List.cons_append] at hd
    have h1 := step_collected (P := P) (fr := fr) (cs := cs) (d := { target := .collected D, args := #[] }) (r := D) (ds := L.map (fun D => { target := .collected D, args := #[] }) ++ tl) (by rw [hm]; simp) hd rfl (run_takeDeferred (hk D (by simp)))
    have hn' := List.nodup_cons.1 hn
    have h2 := steps_markst tl L (w.putObj D (.deferred none)) { fr with defers := L.map (fun D => { target := .collected D, args := #[] }) ++ tl } cs hn'.2 hm rfl (fun D' hD' => by
      rw [World.putObj_heap_other (fun e => hn'.1 (by rw [← e]; exact hD'))]
      exact hk D' (by simp [hD']))
    exact Steps.trans (.one (by simpa using h1)) h2
theorem steps_marks (L : List Nat) (w : World) (fr : Frame) (cs : List Frame) (hn : L.Nodup) (hm : fr.mode = .returning) (hd : fr.defers = L.map (fun D => { target := .collected D, args := #[] })) (hk : ∀ D ∈ L, w.heap[D]? = some (.deferred (some []))) : Steps P (lone fr cs w) (lone { fr with defers := [] } cs (shut w L)) :=
  steps_markst [] L w fr cs hn hm (by rw [hd, List.append_nil]) hk
theorem Fin.leaves {f : FuncId} {fn : Func} {R : Ending → World → Prop} {a : Act} {w : World} (hf : P.funcs[f]? = some fn) {L : List Nat} (hL : L.Nodup) (hd : a.defers = L.map (fun D => { target := .collected D, args := #[] })) (hk : ∀ D ∈ L, w.heap[D]? = some (.deferred (some [])))
    {v : Value} (hv : (results fn a.tmps).run P (shut w L) = .ok v (shut w L)) (hR : R (.returned v) (shut w L)) (b : Frame) (cs : List Frame) (todo : List Item) (hb : b.fn = f) (hkd : b.kind = .normal) :
    Goal P f none R cs (lone { b.atR a todo with mode := .returning } cs w) := by
  have h := steps_marks (P := P) L w { b.atR a todo with mode := .returning } cs hL rfl hd hk
  exact ⟨.returned v, shut w L, _, hR, h, hb, rfl, rfl, hkd, fn, by rw [← hf, ← hb]; rfl, hv⟩
theorem Fin.ret {f : FuncId} {fn : Func} {R : Ending → World → Prop} {todo : List Item} {a : Act} {w : World} (hf : P.funcs[f]? = some fn) {L : List Nat} (hL : L.Nodup) (hd : a.defers = L.map (fun D => { target := .collected D, args := #[] })) (hk : ∀ D ∈ L, w.heap[D]? = some (.deferred (some [])))
    {v : Value} (hv : (results fn a.tmps).run P (shut w L) = .ok v (shut w L)) (hR : R (.returned v) (shut w L)) : Fin P f none R (.code .ret :: todo) a w :=
  fun b cs hb hkd hr => Goal.steps (.one (stepR_ret hr)) (Fin.leaves hf hL hd hk hv hR b cs _ hb hkd)
theorem Fin.ends {f : FuncId} {fn : Func} {R : Ending → World → Prop} {a : Act} {w : World} (hf : P.funcs[f]? = some fn) {L : List Nat} (hL : L.Nodup) (hd : a.defers = L.map (fun D => { target := .collected D, args := #[] })) (hk : ∀ D ∈ L, w.heap[D]? = some (.deferred (some [])))
    {v : Value} (hv : (results fn a.tmps).run P (shut w L) = .ok v (shut w L)) (hR : R (.returned v) (shut w L)) : Fin P f none R [] a w :=
  fun b cs hb hkd hr => Goal.steps (.one (stepR_end hr)) (Fin.leaves hf hL hd hk hv hR b cs [] hb hkd)
def RQ (G : Nat → List V) (ρ₀ : Rho) (h₀ : Heap) (w₀ : World) (Q : V → Heap → Prop) : Ending → World → Prop := fun e w' =>
  ∃ ρ' v h' r, e = .returned r ∧ conc ρ' v = some r ∧ Sim G ρ' h' w' ∧ Keeps ρ₀ h₀ w₀ ρ' h' w' ∧ Q v h'
theorem not_wr {ρ : Rho} {h : Heap} {w : World} (s : Sim G ρ h w) {D : Nat} {x : Option (List Deferred)} (hD : w.heap[D]? = some (.deferred x)) : ¬ WR ρ h D := by
  rintro ⟨i, b, p, hl, hp, hk, rfl⟩
  rcases Kind.three b.kind with h1 | h1 | ⟨r, h1⟩
  · exact hk h1
  · obtain ⟨_, _, c, e, fr, h2, _⟩ := s.wr i b p hl hp h1
    rw [h2] at hD; cases hD
  · obtain ⟨_, h2, _⟩ := s.lp i b p r hl hp h1
    rw [h2] at hD; cases hD
theorem Dfr.keep {ρ ρ' : Rho} {h h' : Heap} {w₀ w w' : World} {ds : List Deferred} (s : Sim G ρ h w) (k : Keeps ρ h w ρ' h' w') (d : Dfr w₀ w ds) : Dfr w₀ w' ds := by
  obtain ⟨L, h1, h2, h3⟩ := d
  refine ⟨L, h1, h2, fun D hD => ⟨(h3 D hD).1, ?_⟩⟩
  have h4 := (h3 D hD).2
  rw [k.same D (Array.getElem?_eq_some_iff.1 h4).1 (not_wr s h4)]
  exact h4
theorem Dfr.alloc {w₀ w : World} {ds : List Deferred} (d : Dfr w₀ w ds) (o : Obj) : Dfr w₀ (w.alloc o) ds := by
  obtain ⟨L, h1, h2, h3⟩ := d
  refine ⟨L, h1, h2, fun D hD => ⟨(h3 D hD).1, ?_⟩⟩
  have h4 := (h3 D hD).2
  have hlt : D < w.heap.size := (Array.getElem?_eq_some_iff.1 h4).1
  show (w.heap.push o)[D]? = _
  rw [Array.getElem?_push, if_neg (by omega)]
  exact h4
theorem cell_deferred {w : World} {D : Nat} {x : Option (List Deferred)} (hD : w.heap[D]? = some (.deferred x)) (o : Nat) : w.cell? ⟨D, o, none⟩ = none := by simp [World.cell?, hD]
theorem shut_sim {ρ : Rho} {h : Heap} {w : World} (s : Sim G ρ h w) (L : List Nat) (hk : ∀ D ∈ L, w.heap[D]? = some (.deferred (some []))) : Sim G ρ h (shut w L) := by
  have hc : ∀ (b o : Nat) r, w.cell? ⟨b, o, none⟩ = some r → (shut w L).cell? ⟨b, o, none⟩ = some r := by
    intro b o r hr
    have : b ∉ L := fun hb => by rw [cell_deferred (hk b hb)] at hr; cases hr
    unfold World.cell? at *
    rw [shut_other L w b this]; exact hr
  have hn : ∀ (b : Nat) (x : Obj), w.heap[b]? = some x → (∀ y, x ≠ .deferred y) → (shut w L).heap[b]? = some x := by
    intro b x hb hx
    rw [shut_other L w b fun h => ?_]
    · exact hb
    · rw [hk b h] at hb; cases hb; exact hx _ rfl
  obtain ⟨_, _, _, hsz⟩ := shut_same L w
  refine ⟨s.rlen, s.plc, fun i b p hl hp hm j v hv hu => ?_, fun i b p hl hp => by rw [hsz]; exact s.blk i b p hl hp, fun i b p hl hp hw => ?_, s.disj, fun g o v hv hu => ?_, fun g hg => s.gsz g (by rw [hsz] at hg; exact hg), fun i b p r hl hp hr => ?_⟩
  · obtain ⟨r, h1, h2⟩ := s.cells i b p hl hp hm j v hv hu
    exact ⟨r, h1, hc _ _ _ h2⟩
  · obtain ⟨g1, g2, c, e, fr, g3, g4, g5⟩ := s.wr i b p hl hp hw
    have g3' := hn _ _ g3 (fun y => by simp)
    refine ⟨g1, g2, c, e, fr, g3', g4, fun j hj => ?_⟩
    have := g5 j hj
    unfold World.frozen? at *
    rw [g3']; rw [g3] at this; exact this
  · obtain ⟨r, h1, h2⟩ := s.globs g o v hv hu
    exact ⟨r, h1, hc _ _ _ h2⟩
  · obtain ⟨g1, g2, g3⟩ := s.lp i b p r hl hp hr
    exact ⟨g1, hn _ _ g2 (fun y => by simp), g3⟩
theorem shut_keeps {ρ₀ ρ : Rho} {h₀ h : Heap} {w₀ w : World} (k : Keeps ρ₀ h₀ w₀ ρ h w) (L : List Nat) (hk : ∀ D ∈ L, w₀.heap.size ≤ D) : Keeps ρ₀ h₀ w₀ ρ h (shut w L) := by
  obtain ⟨e1, e2, e3, e4⟩ := shut_same L w
  exact ⟨e1.trans k.tape, e2.trans k.os, e3.trans k.output, by rw [e4]; exact k.size, fun b hb hw => by rw [shut_other L w b fun h => Nat.not_le_of_lt hb (hk b h)]; exact k.same b hb hw, k.own, k.fresh, k.ext, k.len, k.dead, k.unb, k.rle⟩
def DoesCall (P : Program) (f : FuncId) (args : Array Value) (w : World) (R : Ending → World → Prop) : Prop :=
  ((callFunc f args).run P w = .ok (.enter f args) w ∧ Calls P f args w R) ∨ ∃ v w', (callFunc f args).run P w = .ok (.value v) w' ∧ R (.returned v) w'
def VCall (P : Program) (G : Nat → List V) (f : FuncId) (args : List V) (h : Heap) (Q : V → Heap → Prop) : Prop :=
  ∀ ρ w rargs, Sim G ρ h w → concs ρ args = some rargs → DoesCall P f rargs.toArray w (RQ G ρ h w Q)
theorem RQ.mono {ρ₀ : Rho} {h₀ : Heap} {w₀ : World} {Q Q' : V → Heap → Prop} (hq : ∀ v h, Q v h → Q' v h) {e : Ending} {w : World} (h : RQ G ρ₀ h₀ w₀ Q e w) : RQ G ρ₀ h₀ w₀ Q' e w := by
  obtain ⟨ρ', v, h', r, h1, h2, h3, h4, h5⟩ := h
  exact ⟨ρ', v, h', r, h1, h2, h3, h4, hq _ _ h5⟩
theorem VCall.mono {f : FuncId} {args : List V} {h : Heap} {Q Q' : V → Heap → Prop} (hc : VCall P G f args h Q) (hq : ∀ v h, Q v h → Q' v h) : VCall P G f args h Q' := by
  intro ρ w rargs hs ha
  rcases hc ρ w rargs hs ha with ⟨h1, h2⟩ | ⟨v, w', h1, h2⟩
  · exact .inl ⟨h1, h2.mono fun e w' hr => hr.mono hq⟩
  · exact .inr ⟨v, w', h1, h2.mono hq⟩
end Go.Vs
namespace Go.Vs
def POp.as : POp → List A
  | .mov x | .nck x | .un _ x | .cvi _ x | .mkI _ x | .fda _ x | .fld _ _ _ x | .ext x _ | .len _ x => [x]
  | .pick c a b => [c, a, b]
  | .bld _ ps => ps.map (·.2.2)
  | .bin _ x y | .eq _ _ x y | .eqn _ _ x y | .eqa _ _ x y | .ixa _ _ x y | .ixs _ x y | .ixv _ _ _ _ x y | .ixt x y => [x, y]
  | .mkF _ a c => a ++ c
  | .sle _ x lo hi mx => [x] ++ lo.toList ++ hi.toList ++ mx.toList
  | .slt x lo hi => [x] ++ lo.toList ++ hi.toList
  | .sla _ _ x lo hi mx => [x] ++ lo.toList ++ hi.toList ++ mx.toList
  | .lena _ => []
def VOp.as : VOp → List A
  | .p o => o.as
  | .ld _ _ a => [a]
  | .slx _ x lo hi mx => [x] ++ lo.toList ++ hi.toList ++ mx.toList
  | .new _ => []
  | .box x => [x]
  | .bsl _ _ ps => ps.map (·.2.2)
  | .mks _ _ _ l c => [l, c]
  | .st _ a x => [a, x]
  | .app _ _ _ x y => [x, y]
  | .cpy _ x y => [x, y]
  | .cvs x => [x]
  | .bad => []
def Cal.as : Cal → List A
  | .fn _ => []
  | .val a => [a]
  | .inv a _ => [a]
def VOp.looks : VOp → Bool
  | .p _ | .ld .. | .slx .. | .cvs _ => true
  | _ => false
def VI.dst : VI → Option Nat | .op d _ _ => d | .call d _ _ _ => d | .dfr d _ => d
def VI.grd : VI → Option (Nat × Bool) | .op _ g _ => g | .call _ g _ _ => g | .dfr _ _ => none
def VI.as : VI → List A | .op _ _ o => o.as | .call _ _ c xs => c.as ++ xs | .dfr _ x => [x]
def slotOf : A → Option Nat | .t n => some n | _ => none
def gslot : Option (Nat × Bool) → List Nat | some (t, _) => [t] | none => []
def VI.slots (v : VI) : List Nat := v.as.filterMap slotOf ++ gslot v.grd
def deps (ops : Array Oper) (i : Nat) : List Nat := match ops[i]? with
  | some o => (o.after.toList.filter (Region.binds .any)).map (·.on)
  | none => []
def lookOk : VOp → Bool
  | .p _ | .ld _ _ (.t _) | .ld _ _ (.g _) | .slx _ (.t _) _ _ _ | .cvs (.t _) => true
  | _ => false
def lookSlot : VOp → Option Nat
  | .ld _ _ (.t s) => some s
  | .slx _ (.t s) _ _ _ => some s
  | .cvs (.t s) => some s
  | _ => none
def VOp.makes : VOp → Bool
  | .new _ | .box _ | .bsl .. | .mks .. => true
  | _ => false
def okFloat (ops : Array Oper) (pre : List DS) (x : DS) (rest : List DS) : Bool :=
  match x.vi with
  | .op (some d) g o => ((o.looks && lookOk o) || (o.makes && g.isNone)) && pre.all (fun y => y.vi.dst != some d && !y.vi.slots.contains d) && !x.vi.slots.contains d &&
      rest.all (fun y => y.vi.dst != some d && (!y.vi.slots.contains d || (deps ops y.i).contains x.i))
  | _ => false
def keepN (n s : Nat) : Nat := 1000000 + 1000 * n + s
def keeps (ls : List Nat) (o : VOp) (s : Nat) : Bool := match o with | .ld _ n _ => ls.contains (keepN n s) | _ => false
def okEff (ops : Array Oper) (pre : List DS) (x : DS) (rest : List DS) : Bool :=
  rest.all (fun y => (deps ops y.i).any (fun j => j == x.i || rest.any (·.i == j))) &&
  pre.all (fun y => !y.fl || ((Region.before ops).getD x.i 0).testBit y.i ||
    ((match x.vi.dst with | some d => !y.vi.slots.contains d | none => true) &&
     (match y.vi with
      | .op (some d) _ o => if o.makes then x.allocs.contains d else match lookSlot o with | some s => x.loads.contains s || keeps x.loads o s | none => true
      | _ => true)))
def okAt (ops : Array Oper) : List DS → List DS → Bool
  | _, [] => true
  | pre, x :: rest => (deps ops x.i).all (fun j => pre.any (·.i == j)) && (if x.fl then okFloat ops pre x rest else okEff ops pre x rest) && okAt ops (pre ++ [x]) rest
def noTwice : List Nat → Bool
  | [] => true
  | x :: r => !r.contains x && noTwice r
def planOk (ops : Array Oper) (pl : List DS) : Bool := (pl.length == ops.size) && noTwice (pl.map (·.i)) && pl.all (fun x => x.i < ops.size) && okAt ops [] pl
def mkOrder (ops : Array Oper) (eff : Nat → Bool) : Nat → List Nat → List Nat → List Nat
  | 0, done, _ => done
  | n + 1, done, left =>
    let ready := fun i => (deps ops i).all (fun j => done.contains j)
    match left.find? (fun i => !eff i && ready i) with
    | some i => mkOrder ops eff n (done ++ [i]) (left.erase i)
    | none => match left.find? (fun i => eff i && ready i) with
      | some i => mkOrder ops eff n (done ++ [i]) (left.erase i)
      | none => done
def isAssign : Op → Bool | .assign _ => true | _ => false
def lateLoad : VI → Option Nat | .op _ _ o => if o.makes = true then none else lookSlot o | _ => none
def lateAlloc : VI → Option Nat | .op d _ o => if o.makes = true then d else none | _ => none
def floatB (vis : List VI) (ops : Array Oper) (i : Nat) : Bool :=
  match vis[i]? with
  | some (.op (some d) g o) => ((o.looks && lookOk o) || (o.makes && g.isNone)) && !((ops[i]?).map fun x => isAssign x.op).getD false &&
      (vis.zipIdx.all fun (y, j) => j == i || (y.dst != some d && (!y.slots.contains d || (deps ops j).contains i)))
  | _ => false
def mkDS (P : Program) (ops : Array Oper) (fl : Nat → Bool) (vis : List VI) : List Nat → List Nat → Option (List DS)
  | _, [] => some []
  | pre, i :: r => match (ops[i]?).bind (cI P ops), mkDS P ops fl vis (pre ++ [i]) r with
    | some v, some l =>
      let late := pre.filter fun j => fl j && !((Region.before ops).getD i 0).testBit j
      some (⟨i, fl i, v, if fl i then [] else late.filterMap fun j => (vis[j]?).bind lateLoad,
        if fl i then [] else late.filterMap fun j => (vis[j]?).bind lateAlloc⟩ :: l)
    | _, _ => none
def mkPlan (P : Program) (ops : Array Oper) : Option (List DS) :=
  match cIs P ops ops.toList with
  | some vis =>
    let fl := fun i => floatB vis ops i
    match mkDS P ops fl vis [] (mkOrder ops (fun i => !fl i) ops.size [] (List.range ops.size)) with
    | some pl => if planOk ops pl = true then some pl else none
    | none => none
  | none => none
def PlanIs (P : Program) (ops : Array Oper) (pl : List DS) : Prop := ∀ x ∈ pl, ∃ o, ops[x.i]? = some o ∧ cI P ops o = some x.vi
theorem mkDS_is {P : Program} {ops : Array Oper} {fl : Nat → Bool} {vis : List VI} : ∀ {l pre : List Nat} {pl : List DS}, mkDS P ops fl vis pre l = some pl → PlanIs P ops pl
  | [], _, _, h => by simp only [mkDS, Option.some.injEq] at h; subst h; intro x hx; cases hx
  | i :: r, pre, pl, h => by
    simp only [mkDS] at h
    split at h <;> try (cases h; done)
    rename_i v l h1 h2
    simp only [Option.some.injEq] at h; subst h
    intro x hx
    cases hx with
    | head =>
      simp only [Option.bind_eq_some_iff] at h1
      exact h1
    | tail _ hm => exact mkDS_is h2 x hm
theorem mkPlan_is {P : Program} {ops : Array Oper} {pl : List DS} (h : mkPlan P ops = some pl) : PlanIs P ops pl ∧ planOk ops pl = true := by
  unfold mkPlan at h
  split at h <;> try (cases h; done)
  dsimp only at h
  split at h <;> try (cases h; done)
  rename_i pl' h1
  split at h <;> try (cases h; done)
  rename_i h2
  simp only [Option.some.injEq] at h; subst h
  exact ⟨mkDS_is h1, h2⟩
end Go.Vs
namespace Go.Vs
variable {P : Program} {G : Nat → List V}
section
def cCode (P : Program) : Code → Option VC
  | .skip => some .skip
  | .region _ ops false => some (match cIs P ops ops.toList with | some l => .reg l | none => .bad)
  | .region _ ops true => (mkPlan P ops).map .drw
  | .seq a b => match cCode P a, cCode P b with
    | some x, some y => some (.seq x y)
    | _, _ => none
  | .cond c a b => match cA c, cCode P a, cCode P b with
    | some c, some x, some y => some (.cond c x y)
    | _, _, _ => none
  | .block id c => (cCode P c).map (.block id)
  | .loop c => (cCode P c).map .loop
  | .scope c => (cCode P c).map .scope
  | .exit id => some (.exit id)
  | .ret => some .ret
  | .rangeFunc g ps a c => match cA g, cCode P a, cCode P c with
    | some g, some x, some y => some (.rng g ps.toList x y)
    | _, _, _ => none
  | _ => none
def MatchI (P : Program) : TI → Item → Prop
  | .c vc, .code c => cCode P c = some vc
  | .b id, .inBlock id' => id = id'
  | .l vc, .inLoop c => cCode P c = some vc
  | .s, .inScope _ => True
  | .beg, .beginRound => True
  | _, _ => False
def MatchL (P : Program) : List TI → List Item → Prop
  | [], [] => True
  | x :: k, y :: todo => MatchI P x y ∧ MatchL P k todo
  | _, _ => False
def MatchR (P : Program) (ops : Array Oper) : List Nat → List VI → Prop
  | [], [] => True
  | i :: is, v :: l => (∃ o, ops[i]? = some o ∧ cI P ops o = some v) ∧ MatchR P ops is l
  | _, _ => False
def Stmt (P : Program) (f : FuncId) (rd : Option Nat) (R : Ending → World → Prop) (k : List TI) (a : Act) (w : World) : Prop :=
  match k with
  | .r l :: k => ∀ todo ops idxs, MatchL P k todo → MatchR P ops idxs l → wpOpsIn (fw rd) 0 P ops (Nrm (Fin P f rd R todo)) idxs a w
  | k => ∀ todo, MatchL P k todo → Fin P f rd R todo a w
def DfrM (md : Md) (w₀ w : World) (ds : List Deferred) : Prop := match md.df with
    | none => Dfr w₀ w ds
    | some g => ∃ d1 d2 ar cap, ds = d1 ++ { target := .fn (.func g) cap, args := ar } :: d2 ∧ Dfr w₀ w (d1 ++ d2)
theorem DfrM.keep {md : Md} {ρ ρ' : Rho} {h h' : Heap} {w₀ w w' : World} {ds : List Deferred} (s : Sim G ρ h w) (k : Keeps ρ h w ρ' h' w') (d : DfrM md w₀ w ds) : DfrM md w₀ w' ds := by
  obtain ⟨ri, df⟩ := md
  cases df with
  | none => exact Dfr.keep s k d
  | some g =>
    obtain ⟨d1, d2, ar, cap, e, h1⟩ := d
    exact ⟨d1, d2, ar, cap, e, h1.keep s k⟩
theorem DfrM.alloc {md : Md} {w₀ w : World} {ds : List Deferred} (d : DfrM md w₀ w ds) (o : Obj) : DfrM md w₀ (w.alloc o) ds := by
  obtain ⟨ri, df⟩ := md
  cases df with
  | none => exact Dfr.alloc d o
  | some g =>
    obtain ⟨d1, d2, ar, cap, e, h1⟩ := d
    exact ⟨d1, d2, ar, cap, e, h1.alloc o⟩
theorem DfrM.nil (ri : Option Nat) (w₀ w : World) : DfrM { ri := ri } w₀ w [] := Dfr.nil w₀ w
def Hd (md : Md) (ρ₀ : Rho) (w₀ w : World) (ds : List Deferred) : Prop := DfrM md w₀ w ds ∧ (md.ri.isSome = true → (rdOf md.ri ρ₀).isSome = true)
theorem Hd.keep {md : Md} {ρ₀ ρ ρ' : Rho} {h h' : Heap} {w₀ w w' : World} {ds : List Deferred} (s : Sim G ρ h w) (k : Keeps ρ h w ρ' h' w') (d : Hd md ρ₀ w₀ w ds) : Hd md ρ₀ w₀ w' ds := ⟨d.1.keep s k, d.2⟩
def RunM (P : Program) (G : Nat → List V) (f : FuncId) (n : Nat) (md : Md) (Q : V → Heap → Prop) (p : List TI × St) : Prop :=
  ∀ ρ₀ h₀ w₀ ρ a w, (h₀.length = n ∧ ρ₀.length = n) → Keeps ρ₀ h₀ w₀ ρ p.2.heap w → Sim G ρ p.2.heap w → TRel ρ p.2.tmps a.tmps → Hd md ρ₀ w₀ w a.defers → Stmt P f (rdOf md.ri ρ₀) (RQ G ρ₀ h₀ w₀ Q) p.1 a w
abbrev Run (P : Program) (G : Nat → List V) (f : FuncId) (n : Nat) (Q : V → Heap → Prop) (p : List TI × St) : Prop := RunM P G f n {} Q p
def exitV (id : Nat) : List TI → Option (List TI)
  | .b id' :: k => if (id' == id) = true then some k else exitV id k
  | _ :: k => exitV id k
  | [] => none
def stepV (G : Nat → List V) (p : List TI × St) : Option (List TI × St) :=
  match p with
  | (.c .skip :: k, s) => some (k, s)
  | (.c (.reg l) :: k, s) => some (.r l :: k, s)
  | (.c (.seq x y) :: k, s) => some (.c x :: .c y :: k, s)
  | (.c (.cond c x y) :: k, s) => match asB (ev s.tmps c) with
    | some t => some ((if t = true then .c x else .c y) :: k, s)
    | none => none
  | (.c (.block id c) :: k, s) => some (.c c :: .b id :: k, s)
  | (.c (.loop c) :: k, s) => some (.l c :: k, s)
  | (.c (.scope c) :: k, s) => some (.c c :: .s :: k, s)
  | (.c (.exit id) :: k, s) => match exitV id k with
    | some k' => some (k', s)
    | none => none
  | (.b _ :: k, s) => some (k, s)
  | (.s :: k, s) => some (k, s)
  | (.r [] :: k, s) => some (k, s)
  | (.r (.op d g o :: l) :: k, s) => match wantV s.tmps g with
    | some true => match exo G s.tmps s.heap o with
      | some (v, h) => some (.r l :: k, ⟨setd s.tmps d v, h⟩)
      | none => none
    | some false => some (.r l :: k, ⟨setd s.tmps d (.tup []), s.heap⟩)
    | none => none
  | (.r (.call d g _ _ :: l) :: k, s) => match wantV s.tmps g with
    | some false => some (.r l :: k, ⟨setd s.tmps d (.tup []), s.heap⟩)
    | _ => none
  | _ => none
theorem matchL_cons {x : TI} {k : List TI} {todo : List Item} (h : MatchL P (x :: k) todo) : ∃ y r, todo = y :: r ∧ MatchI P x y ∧ MatchL P k r := by
  cases todo with
  | nil => exact h.elim
  | cons y r => exact ⟨y, r, rfl, h.1, h.2⟩
theorem exit_match {id : Nat} : ∀ {k : List TI} {todo : List Item}, MatchL P k todo → ∀ {k'}, exitV id k = some k' → ∃ todo', exitTo id todo = some todo' ∧ MatchL P k' todo'
  | [], _, _, _, h => by simp [exitV] at h
  | x :: k, todo, hm, k', h => by
    obtain ⟨y, r, rfl, h1, h2⟩ := matchL_cons hm
    cases x <;> cases y <;> simp only [MatchI] at h1 <;> try (exact h1.elim)
    case b.inBlock i j =>
      subst h1
      simp only [exitV] at h
      simp only [exitTo]
      split at h
      · rename_i he
        simp only [Option.some.injEq] at h; subst h
        exact ⟨r, by rw [if_pos he], h2⟩
      · rename_i he
        rw [if_neg he]
        exact exit_match h2 h
    all_goals
      simp only [exitV] at h
      simp only [exitTo]
      exact exit_match h2 h
theorem TRel.setd {ρ : Rho} {tm : List V} {a : Act} (r : TRel ρ tm a.tmps) (d : Option Nat) {v : V} {x : Value} (hx : conc ρ v = some x) : TRel ρ (setd tm d v) (a.put d x).tmps := by
  cases d with
  | none => exact r
  | some d => exact TRel.set r d hx
theorem put_defers' (a : Act) (d : Option Nat) (x : Value) : (a.put d x).defers = a.defers := by cases d <;> rfl
theorem cI_op {ops : Array Oper} {o : Oper} {d : Option Nat} {g : Option (Nat × Bool)} {vo : VOp} (h : cI P ops o = some (.op d g vo)) : cGuard ops o.guard = some g ∧ o.dst = d ∧ cO P o.op = some vo := by
  unfold cI at h
  split at h <;> try (cases h; done)
  rename_i g' hg
  split at h
  · rename_i vo' hvo
    simp only [Option.some.injEq, VI.op.injEq] at h
    obtain ⟨rfl, rfl, rfl⟩ := h
    exact ⟨hg, rfl, hvo⟩
  · split at h <;> try (cases h; done)
    · split at h <;> cases h
    · split at h <;> try (cases h; done)
      simp [Option.map_eq_some_iff] at h
theorem cI_call {ops : Array Oper} {o : Oper} {d : Option Nat} {g : Option (Nat × Bool)} {cal : Cal} {xs : List A} (h : cI P ops o = some (.call d g cal xs)) :
    cGuard ops o.guard = some g ∧ o.dst = d ∧ ∃ c, o.op = .call c ∧ cCal c.callee = some cal ∧ cAs c.args.toList = some xs := by
  unfold cI at h
  split at h <;> try (cases h; done)
  rename_i g' hg
  split at h
  · cases h
  · split at h <;> try (cases h; done)
    · rename_i c hc
      split at h <;> try (cases h; done)
      rename_i cal' xs' h1 h2
      simp only [Option.some.injEq, VI.call.injEq] at h
      obtain ⟨rfl, rfl, rfl, rfl⟩ := h
      exact ⟨hg, rfl, c, hc, h1, h2⟩
    · split at h <;> try (cases h; done)
      simp [Option.map_eq_some_iff] at h
theorem cI_dfr {ops : Array Oper} {o : Oper} {d : Option Nat} {x : A} (h : cI P ops o = some (.dfr d x)) : cGuard ops o.guard = some none ∧ o.dst = d ∧ ∃ c y, o.op = .defer c ∧ c.callee = .value y ∧ cA y = some x ∧ c.args.toList = [] := by
  unfold cI at h
  split at h <;> try (cases h; done)
  rename_i g' hg
  split at h
  · cases h
  · split at h <;> try (cases h; done)
    · split at h <;> cases h
    · rename_i c hc
      split at h <;> try (cases h; done)
      rename_i y h1 h2
      simp only [Option.map_eq_some_iff, VI.dfr.injEq] at h
      obtain ⟨a, ha, rfl, rfl⟩ := h
      exact ⟨hg, rfl, c, y, hc, h1, ha, h2⟩
theorem guard_want {ρ : Rho} {tm : List V} {a : Act} (ht : TRel ρ tm a.tmps) {ops : Array Oper} {o : Oper} {g : Option (Nat × Bool)} (hg : cGuard ops o.guard = some g) {b : Bool} (hw : wantV tm g = some b) : Region.wanted o (yielded ops a.tmps) = b := by
  unfold Region.wanted
  unfold cGuard at hg
  cases ho : o.guard with
  | none =>
    simp only [ho, Option.some.injEq] at hg ⊢
    subst hg
    simpa [wantV] using hw
  | some jb =>
    obtain ⟨j, want⟩ := jb
    simp only [ho] at hg ⊢
    split at hg <;> try (cases hg; done)
    rename_i d hd
    simp only [Option.some.injEq] at hg; subst hg
    exact yielded_rel ht hd hw
theorem cO_ne_defer {op : Op} {vo : VOp} (h : cO P op = some vo) : ∀ c, op ≠ .defer c := by
  rintro c rfl
  simp [cO, cP] at h
theorem wpOps_op {rd : Option Nat} {ρ : Rho} {h h' : Heap} {w : World} {tm : List V} {a : Act} (s : Sim G ρ h w) (ht : TRel ρ tm a.tmps) {ops : Array Oper} {i : Nat} {is : List Nat} {o : Oper} (ho : ops[i]? = some o) {d : Option Nat} {g : Option (Nat × Bool)} {vo : VOp} (hc : cI P ops o = some (.op d g vo))
    (hg : wantV tm g = some true) {v : V} (hv : exo G tm h vo = some (v, h')) {K : Exit → Act → World → Prop}
    (hK : ∀ ρ' w' r, conc ρ' v = some r → Sim G ρ' h' w' → Keeps ρ h w ρ' h' w' → wpOpsIn (fw rd) 0 P ops K is (a.put d r) w') : wpOpsIn (fw rd) 0 P ops K (i :: is) a w := by
  obtain ⟨c1, c2, c3⟩ := cI_op hc
  obtain ⟨ρ', w', r, h1, h2, h3, h4⟩ := exo_sound (P := P) s ht.evRel c3 hv
  subst c2
  simp only [wpOpsIn, ho]
  rw [if_pos (guard_want ht c1 hg)]
  refine ⟨fun _ _ => trivial, ?_⟩
  rw [Oper.semAt_eq _ _ _ (cO_ne_defer c3)]
  rcases h1 with h1 | ⟨h1, rfl⟩
  · rw [h1]; exact hK ρ' w' r h2 h3 h4
  · rw [h1]; exact hK ρ' w' _ h2 h3 h4
theorem wpOps_skip {rd : Option Nat} {ρ : Rho} {tm : List V} {a : Act} {w : World} (ht : TRel ρ tm a.tmps) {ops : Array Oper} {i : Nat} {is : List Nat} {o : Oper} (ho : ops[i]? = some o) {g : Option (Nat × Bool)} (hg : cGuard ops o.guard = some g)
    (hw : wantV tm g = some false) {K : Exit → Act → World → Prop} (hK : wpOpsIn (fw rd) 0 P ops K is (a.put o.dst undef) w) : wpOpsIn (fw rd) 0 P ops K (i :: is) a w := by
  simp only [wpOpsIn, ho]
  rw [if_neg (by rw [guard_want ht hg hw]; simp)]
  exact ⟨fun _ _ => trivial, hK⟩
theorem stmt_of {f : FuncId} {rd : Option Nat} {R : Ending → World → Prop} {k : List TI} {a : Act} {w : World} (h : Stmt P f rd R k a w) {todo : List Item} (hm : MatchL P k todo) : Fin P f rd R todo a w := by
  unfold Stmt at h
  split at h
  · rename_i l k'
    obtain ⟨y, r, rfl, h1, _⟩ := matchL_cons hm
    cases y <;> exact h1.elim
  · exact h todo hm
theorem cCode_inv {c : Code} {vc : VC} (h : cCode P c = some vc) : match vc with
    | .skip => c = .skip
    | .reg l => ∃ id ops, c = .region id ops false ∧ cIs P ops ops.toList = some l
    | .drw l => ∃ id ops, c = .region id ops true ∧ mkPlan P ops = some l
    | .seq x y => ∃ a b, c = .seq a b ∧ cCode P a = some x ∧ cCode P b = some y
    | .cond d x y => ∃ e a b, c = .cond e a b ∧ cA e = some d ∧ cCode P a = some x ∧ cCode P b = some y
    | .block id x => ∃ a, c = .block id a ∧ cCode P a = some x
    | .loop x => ∃ a, c = .loop a ∧ cCode P a = some x
    | .scope x => ∃ a, c = .scope a ∧ cCode P a = some x
    | .exit id => c = .exit id
    | .ret => c = .ret
    | .rng g ps x y => ∃ e qs a b, c = .rangeFunc e qs a b ∧ cA e = some g ∧ qs.toList = ps ∧ cCode P a = some x ∧ cCode P b = some y
    | .bad => True := by
  unfold cCode at h
  split at h
  · cases h; rfl
  · split at h
    · rename_i l hl; cases h; exact ⟨_, _, rfl, hl⟩
    · cases h; trivial
  · simp only [Option.map_eq_some_iff] at h; obtain ⟨l, hl, rfl⟩ := h; exact ⟨_, _, rfl, hl⟩
  · split at h <;> cases h; exact ⟨_, _, rfl, by assumption, by assumption⟩
  · split at h <;> cases h; exact ⟨_, _, _, rfl, by assumption, by assumption, by assumption⟩
  · simp only [Option.map_eq_some_iff] at h; obtain ⟨l, hl, rfl⟩ := h; exact ⟨_, rfl, hl⟩
  · simp only [Option.map_eq_some_iff] at h; obtain ⟨l, hl, rfl⟩ := h; exact ⟨_, rfl, hl⟩
  · simp only [Option.map_eq_some_iff] at h; obtain ⟨l, hl, rfl⟩ := h; exact ⟨_, rfl, hl⟩
  · cases h; rfl
  · cases h; rfl
  · split at h <;> cases h; exact ⟨_, _, _, _, rfl, by assumption, rfl, by assumption, by assumption⟩
  · cases h
theorem matchR_all {ops : Array Oper} : ∀ (l : List Oper) (vs : List VI), cIs P ops l = some vs → ∀ (is : List Nat), is.length = l.length → (∀ (j : Nat) o, l[j]? = some o → ∃ i, is[j]? = some i ∧ ops[i]? = some o) → MatchR P ops is vs
  | [], vs, h, is, hl, _ => by
    simp only [cIs, Option.some.injEq] at h; subst h
    have : is = [] := List.length_eq_zero_iff.1 hl
    subst this; trivial
  | o :: l, vs, h, is, hl, hall => by
    simp only [cIs] at h
    split at h <;> try (cases h; done)
    rename_i v vs' h1 h2
    simp only [Option.some.injEq] at h; subst h
    cases is with
    | nil => simp at hl
    | cons i is =>
      obtain ⟨i', e1, e2⟩ := hall 0 o rfl
      simp only [List.getElem?_cons_zero, Option.some.injEq] at e1; subst e1
      exact ⟨⟨o, e2, h1⟩, matchR_all l vs' h2 is (by simpa using hl) fun j o' hj => by have := hall (j + 1) o' (by simpa using hj); simpa using this⟩
theorem matchR_range {ops : Array Oper} {l : List VI} (h : cIs P ops ops.toList = some l) : MatchR P ops (List.range ops.size) l :=
  matchR_all _ _ h _ (by simp) fun j o hj => by
    have hlt := (List.getElem?_eq_some_iff.1 hj).1
    simp only [Array.length_toList] at hlt
    exact ⟨j, by simp [hlt], by simpa using hj⟩
set_option maxHeartbeats 1000000 in
theorem goal_same {f : FuncId} {rd : Option Nat} {R : Ending → World → Prop} {cs : List Frame} {fr₁ fr₂ : Frame} {w₁ w₂ : World} {m : Machine} (s1 : step P (lone fr₁ cs w₁) = .next m) (s2 : step P (lone fr₂ cs w₂) = .next m) (hm : rd = rd → fr₂.mode = .run)
    (hR : ∀ e w', R e w' → ∃ v, e = .returned v) (h : Goal P f rd R cs (lone fr₂ cs w₂)) : Goal P f rd R cs (lone fr₁ cs w₁) := by
  cases rd with
  | none =>
    obtain ⟨e, w2, fr, hq, hcm, hf, hl⟩ := h
    refine ⟨e, w2, fr, hq, ?_, hf, hl⟩
    obtain ⟨v, rfl⟩ := hR e w2 hq
    obtain ⟨k, hm'⟩ := hcm
    cases k with
    | zero =>
      simp only [runN] at hm'
      have hl1 := hl.1
      simp only [Stepped.next.injEq] at hm'
      simp only [lone, Machine.mk.injEq] at hm'
      obtain ⟨_, hgs, _⟩ := hm'
      simp only [Array.mk.injEq, List.cons.injEq, Goroutine.mk.injEq] at hgs
      rw [← hgs.1.1, hm rfl] at hl1
      cases hl1
    | succ k =>
      rw [runN, s2] at hm'
      exact ⟨k + 1, by rw [runN, s1]; exact hm'⟩
  | some l =>
    intro c cs' e
    obtain ⟨v, w', hq, k, hm'⟩ := h c cs' e
    refine ⟨v, w', hq, ?_⟩
    cases k with
    | zero =>
      simp only [runN] at hm'
      simp only [Stepped.next.injEq] at hm'
      simp only [lone, Machine.mk.injEq] at hm'
      obtain ⟨_, hgs, _⟩ := hm'
      simp only [Array.mk.injEq, List.cons.injEq, Goroutine.mk.injEq] at hgs
      have := congrArg List.length hgs.1.2.1
      rw [e] at this
      simp at this
    | succ k =>
      rw [runN, s2] at hm'
      exact ⟨k + 1, by rw [runN, s1]; exact hm'⟩
section
variable {b : Frame} {a : Act} {k : List Item} {cs : List Frame} {w : World}
theorem stepR_scope {c : Code} : step P (lone (b.atR a (.code (.scope c) :: k)) cs w) = .next (lone (b.atR a (.code c :: .inScope c :: k)) cs w) :=
  step_lone_go (by simp [stepG, stepG.exec, Frame.atR])
theorem stepR_inScope {c : Code} : step P (lone (b.atR a (.inScope c :: k)) cs w) = .next (lone (b.atR a k) cs w) :=
  step_lone_go (by simp [stepG, stepG.exec, Frame.atR])
end
theorem run_step {f : FuncId} {n : Nat} {md : Md} {Q : V → Heap → Prop} {p p' : List TI × St} (hs : stepV G p = some p') (h : RunM P G f n md Q p') : RunM P G f n md Q p := by
  obtain ⟨k, st⟩ := p
  intro ρ₀ h₀ w₀ ρ a w hn hk hsim ht hd
  have go : ∀ (p'' : List TI × St), p'' = p' → p''.2 = st → Stmt P f (rdOf md.ri ρ₀) (RQ G ρ₀ h₀ w₀ Q) p''.1 a w := by
    rintro _ rfl e
    exact h ρ₀ h₀ w₀ ρ a w hn (by rw [e]; exact hk) (by rw [e]; exact hsim) (by rw [e]; exact ht) hd
  cases k with
  | nil => simp [stepV] at hs
  | cons x k =>
    cases x with
    | c vc =>
      have item : ∀ {k' : List TI}, (k', st) = p' → (∀ (c : Code) (todo : List Item), cCode P c = some vc → MatchL P k todo → ∃ todo', MatchL P k' todo' ∧ ∀ (b : Frame) (cs : List Frame), b.roundOf = rdOf md.ri ρ₀ → Steps P (lone (b.atR a (.code c :: todo)) cs w) (lone (b.atR a todo') cs w)) → Stmt P f (rdOf md.ri ρ₀) (RQ G ρ₀ h₀ w₀ Q) (.c vc :: k) a w := by
        intro k' hk' hstep
        simp only [Stmt]
        intro todo hm
        obtain ⟨y, r, rfl, h1, h2⟩ := matchL_cons hm
        cases y <;> simp only [MatchI] at h1 <;> try (exact h1.elim)
        rename_i c
        obtain ⟨todo', g1, g2⟩ := hstep c r h1 h2
        exact Fin.step g2 (stmt_of (go _ hk' rfl) g1)
      cases vc with
      | skip =>
        simp only [stepV, Option.some.injEq] at hs
        refine item hs fun c todo hc hm => ⟨todo, hm, fun b cs _ => ?_⟩
        have := cCode_inv hc; simp only at this; subst this
        exact .one stepR_skip
      | reg l =>
        simp only [stepV, Option.some.injEq] at hs
        simp only [Stmt]
        intro todo hm
        obtain ⟨y, r, rfl, h1, h2⟩ := matchL_cons hm
        cases y <;> simp only [MatchI] at h1 <;> try (exact h1.elim)
        rename_i c
        obtain ⟨id, ops, rfl, hl⟩ := cCode_inv h1
        exact Fin.of_wp (wpIn_region ((go _ hs rfl) r ops _ h2 (matchR_range hl)))
      | seq x y =>
        simp only [stepV, Option.some.injEq] at hs
        refine item hs fun c todo hc hm => ?_
        obtain ⟨c1, c2, rfl, e1, e2⟩ := cCode_inv hc
        exact ⟨.code c1 :: .code c2 :: todo, ⟨e1, e2, hm⟩, fun b cs _ => .one stepR_seq⟩
      | cond d x y =>
        simp only [stepV] at hs
        split at hs <;> try (cases hs; done)
        rename_i t hb
        simp only [Option.some.injEq] at hs
        refine item hs fun c todo hc hm => ?_
        obtain ⟨e, c1, c2, rfl, e0, e1, e2⟩ := cCode_inv hc
        have hev := opB ht.evRel e0 hb
        refine ⟨.code (if t = true then c1 else c2) :: todo, ⟨?_, hm⟩, fun b cs _ => .one ?_⟩
        · cases t <;> simp only [Bool.false_eq_true, if_false, if_true, MatchI] <;> assumption
        · have := stepR_cond (P := P) (b := b) (a := a) (k := todo) (cs := cs) (w := w) (c := e) (x := c1) (y := c2) hev
          cases t <;> simpa using this
      | block id x =>
        simp only [stepV, Option.some.injEq] at hs
        refine item hs fun c todo hc hm => ?_
        obtain ⟨c1, rfl, e1⟩ := cCode_inv hc
        exact ⟨.code c1 :: .inBlock id :: todo, ⟨e1, rfl, hm⟩, fun b cs _ => .one stepR_block⟩
      | loop x =>
        simp only [stepV, Option.some.injEq] at hs
        subst hs
        simp only [Stmt]
        intro todo hm
        obtain ⟨y, r, rfl, h1, h2⟩ := matchL_cons hm
        cases y <;> simp only [MatchI] at h1 <;> try (exact h1.elim)
        rename_i c
        obtain ⟨c1, rfl, e1⟩ := cCode_inv h1
        -- the loop's head is the same as its foot
        have hfoot := stmt_of (go _ rfl rfl) (todo := .inLoop c1 :: r) ⟨e1, h2⟩
        intro b cs hb hk hr
        have hg := hfoot b cs hb hk hr
        have s1 := stepR_loop (P := P) (b := b) (a := a) (k := r) (cs := cs) (w := w) (c := c1)
        have s2 := stepR_inLoop (P := P) (b := b) (a := a) (k := r) (cs := cs) (w := w) (c := c1)
        exact goal_same s1 s2 (by intro hm'; simp [Frame.atR]) (fun e w' he => by obtain ⟨ρ', v, h', r', rfl, _⟩ := he; exact ⟨_, rfl⟩) hg
      | exit id =>
        simp only [stepV] at hs
        split at hs <;> try (cases hs; done)
        rename_i k' hk'
        simp only [Option.some.injEq] at hs
        refine item hs fun c todo hc hm => ?_
        have := cCode_inv hc; simp only at this; subst this
        obtain ⟨todo', g1, g2⟩ := exit_match hm hk'
        exact ⟨todo', g2, fun b cs _ => .one (stepR_exit g1)⟩
      | scope x =>
        simp only [stepV, Option.some.injEq] at hs
        refine item hs fun c todo hc hm => ?_
        obtain ⟨c1, rfl, e1⟩ := cCode_inv hc
        exact ⟨.code c1 :: .inScope c1 :: todo, ⟨e1, trivial, hm⟩, fun b cs _ => .one stepR_scope⟩
      | ret => simp [stepV] at hs
      | drw l => simp [stepV] at hs
      | bad => simp [stepV] at hs
      | rng g ps x y => simp [stepV] at hs
    | b id =>
      simp only [stepV, Option.some.injEq] at hs
      simp only [Stmt]
      intro todo hm
      obtain ⟨y, r, rfl, h1, h2⟩ := matchL_cons hm
      cases y <;> simp only [MatchI] at h1 <;> try (exact h1.elim)
      exact Fin.step (fun b cs _ => .one stepR_inBlock) (stmt_of (go _ hs rfl) h2)
    | s =>
      simp only [stepV, Option.some.injEq] at hs
      simp only [Stmt]
      intro todo hm
      obtain ⟨y, r, rfl, h1, h2⟩ := matchL_cons hm
      cases y <;> simp only [MatchI] at h1 <;> try (exact h1.elim)
      exact Fin.step (fun b cs _ => .one stepR_inScope) (stmt_of (go _ hs rfl) h2)
    | l c => simp [stepV] at hs
    | beg => simp [stepV] at hs
    | r l =>
      cases l with
      | nil =>
        simp only [stepV, Option.some.injEq] at hs
        simp only [Stmt]
        intro todo ops idxs hm hr
        cases idxs with
        | nil => simp only [wpOpsIn, Nrm]; exact stmt_of (go _ hs rfl) hm
        | cons i is => exact hr.elim
      | cons v l =>
        cases v with
        | op d g o =>
          simp only [stepV] at hs
          split at hs <;> try (cases hs; done)
          · rename_i hg
            split at hs <;> try (cases hs; done)
            rename_i u h' hv
            simp only [Option.some.injEq] at hs
            simp only [Stmt]
            intro todo ops idxs hm hr
            cases idxs with
            | nil => exact hr.elim
            | cons i is =>
              obtain ⟨⟨o', ho, hc⟩, hr'⟩ := hr
              refine wpOps_op (P := P) hsim ht ho hc hg hv fun ρ' w' r h1 h2 h3 => ?_
              have := h ρ₀ h₀ w₀ ρ' (a.put d r) w' hn (by rw [← hs]; exact Keeps.trans hsim.plc hk h3) (by rw [← hs]; exact h2)
                (by rw [← hs]; exact TRel.setd (ht.ext h3.ext) d h1) (by rw [put_defers']; exact hd.keep hsim h3)
              rw [← hs] at this
              exact this todo ops is hm hr'
          · rename_i hg
            simp only [Option.some.injEq] at hs
            simp only [Stmt]
            intro todo ops idxs hm hr
            cases idxs with
            | nil => exact hr.elim
            | cons i is =>
              obtain ⟨⟨o', ho, hc⟩, hr'⟩ := hr
              obtain ⟨c1, c2, c3⟩ := cI_op hc
              refine wpOps_skip (P := P) ht ho c1 hg ?_
              have := h ρ₀ h₀ w₀ ρ (a.put d undef) w hn (by rw [← hs]; exact hk) (by rw [← hs]; exact hsim)
                (by rw [← hs]; exact TRel.setd ht d (undef_conc ρ)) (by rw [put_defers']; exact hd)
              rw [← hs] at this
              rw [c2]
              exact this todo ops is hm hr'
        | call d g cal xs =>
          simp only [stepV] at hs
          split at hs <;> try (cases hs; done)
          rename_i hg
          simp only [Option.some.injEq] at hs
          simp only [Stmt]
          intro todo ops idxs hm hr
          cases idxs with
          | nil => exact hr.elim
          | cons i is =>
            obtain ⟨⟨o', ho, hc⟩, hr'⟩ := hr
            obtain ⟨c1, c2, c3⟩ := cI_call hc
            refine wpOps_skip (P := P) ht ho c1 hg ?_
            have := h ρ₀ h₀ w₀ ρ (a.put d undef) w hn (by rw [← hs]; exact hk) (by rw [← hs]; exact hsim)
              (by rw [← hs]; exact TRel.setd ht d (undef_conc ρ)) (by rw [put_defers']; exact hd)
            rw [← hs] at this
            rw [c2]
            exact this todo ops is hm hr'
        | dfr d x => simp [stepV] at hs
def drive (G : Nat → List V) : Nat → List TI × St → List TI × St
  | 0, p => p
  | n + 1, p => match stepV G p with
    | some p' => drive G n p'
    | none => p
theorem run_drive {f : FuncId} {n : Nat} {md : Md} {Q : V → Heap → Prop} (m : Nat) : ∀ {p : List TI × St}, RunM P G f n md Q (drive G m p) → RunM P G f n md Q p := by
  induction m with
  | zero => intro p h; exact h
  | succ m ih =>
    intro p h
    simp only [drive] at h
    split at h
    · rename_i p' hp
      exact run_step hp (ih h)
    · exact h
theorem run_loop {f : FuncId} {n : Nat} {md : Md} {Q : V → Heap → Prop} {c : VC} {k : List TI} {st : St} (h : RunM P G f n md Q (.c c :: .l c :: k, st)) : RunM P G f n md Q (.l c :: k, st) := by
  intro ρ₀ h₀ w₀ ρ a w hn hk hsim ht hd
  simp only [Stmt]
  intro todo hm
  obtain ⟨y, r, rfl, h1, h2⟩ := matchL_cons hm
  cases y <;> simp only [MatchI] at h1 <;> try (exact h1.elim)
  rename_i c1
  exact Fin.step (fun b cs _ => .one stepR_inLoop) (stmt_of (h ρ₀ h₀ w₀ ρ a w hn hk hsim ht hd) (todo := .code c1 :: .inLoop c1 :: r) ⟨h1, h1, h2⟩)
inductive RV where
  | t (n : Nat)
  | m (n : Nat) (agg : Bool) (size : Nat)
def cRV (P : Program) : ResultVar → Option RV
  | .tmp t => some (.t t)
  | .cell a t => (aggT P t).bind fun agg => (isz P t).bind fun n => if agg = true ∨ n = 1 then some (.m a agg n) else none
def cRVs (P : Program) : List ResultVar → Option (List RV)
  | [] => some []
  | x :: r => match cRV P x, cRVs P r with
    | some y, some l => some (y :: l)
    | _, _ => none
def rv (G : Nat → List V) (tm : List V) (h : Heap) : RV → Option V
  | .t n => kn (tm.getD n .unk)
  | .m n agg size => match ldc G h (tm.getD n .unk) size with
    | some l => if agg = true then some (.agg l) else match l with
      | [v] => some v
      | _ => none
    | none => none
def rvs (G : Nat → List V) (tm : List V) (h : Heap) : List RV → Option (List V)
  | [] => some []
  | x :: r => match rv G tm h x, rvs G tm h r with
    | some v, some l => some (v :: l)
    | _, _ => none
def one (l : List V) : V := match l with
  | [v] => v
  | l => .tup l
def rvSem (t : Array Value) : ResultVar → Sem Value
  | .tmp t' => Pure.pure (t.getD t' undef)
  | .cell a t' => do loadVar t' (← asAddr (t.getD a undef))
theorem results_eq (fn : Func) (t : Array Value) : results fn t = (do let vs ← fn.results.mapM (rvSem t); Pure.pure (if h : vs.size = 1 then vs[0] else .tuple vs)) := by
  have : (fun x => match x with | .tmp t' => Pure.pure (t.getD t' undef) | .cell a t' => do loadVar t' (← asAddr (t.getD a undef))) = rvSem t := by
    funext x
    cases x <;> rfl
  unfold results
  rw [← this]
  rfl
theorem rv_sound {ρ : Rho} {h : Heap} {w : World} (s : Sim G ρ h w) {tm : List V} {t : Array Value} (ht : TRel ρ tm t) {x : ResultVar} {y : RV} (hc : cRV P x = some y) {v : V} (hv : rv G tm h y = some v) :
    ∃ r, (rvSem t x).run P w = .ok r w ∧ conc ρ v = some r := by
  have slot : ∀ n u, tm.getD n .unk = u → u ≠ .unk → conc ρ u = some (t.getD n undef) := by
    intro n u hu hne
    cases he : tm[n]? with
    | none => simp [List.getD, he] at hu; exact absurd hu.symm hne
    | some x =>
      simp only [List.getD, he, Option.getD_some] at hu
      subst hu
      obtain ⟨r, h1, h2⟩ := ht.2 n x he hne
      simp [h1, h2]
  cases x with
  | tmp t' =>
    simp only [cRV, Option.some.injEq] at hc; subst hc
    obtain ⟨rfl, hne⟩ := kn_some hv
    exact ⟨_, rfl, slot t' _ rfl hne⟩
  | cell a t' =>
    simp only [cRV, Option.bind_eq_some_iff] at hc
    obtain ⟨agg, h1, n, h2, hc⟩ := hc
    split at hc <;> try (cases hc; done)
    rename_i h3
    simp only [Option.some.injEq] at hc; subst hc
    simp only [rv] at hv
    split at hv <;> try (cases hv; done)
    rename_i l hl
    have hX := slot a _ rfl (ldc_unk hl)
    obtain ⟨hn, p, rs, hp, hsp, hr, hcells⟩ := load_sim s hl hX
    have hlen := concs_length hr
    simp only [rvSem, Sem.run_bind, hp, asAddr, Sem.run_pure, Result.andThen_ok, loadVar, aggT_spec h1, Sem.run_ite, isz_spec h2]
    split at hv
    · rename_i hag
      subst hag
      simp only [Option.some.injEq] at hv; subst hv
      have := run_loadCells_list (P := P) w p rs hcells
      simp only [if_true]
      rw [show n = rs.length by omega, this]
      exact ⟨_, rfl, by simp [conc, hr]⟩
    · rename_i hag
      split at hv <;> try (cases hv; done)
      simp only [Option.some.injEq] at hv; subst hv
      obtain ⟨X, Y, g1, g2, rfl⟩ := concs_cons.1 hr
      have := hcells 0 X rfl
      rw [Addr.add_zero'] at this
      refine ⟨X, ?_, g1⟩
      simp only [Bool.not_eq_true] at hag
      simp [hag, this]
theorem rvs_sound {ρ : Rho} {h : Heap} {w : World} (s : Sim G ρ h w) {tm : List V} {t : Array Value} (ht : TRel ρ tm t) : ∀ {xs : List ResultVar} {ys : List RV}, cRVs P xs = some ys → ∀ {l : List V}, rvs G tm h ys = some l →
    ∃ r, (xs.mapM (rvSem t)).run P w = .ok r w ∧ concs ρ l = some r
  | [], _, h, _, e => by
    simp only [cRVs, Option.some.injEq] at h; subst h
    simp only [rvs, Option.some.injEq] at e; subst e
    exact ⟨[], by simp, rfl⟩
  | x :: xs, _, hc, _, e => by
    simp only [cRVs] at hc
    split at hc <;> try (cases hc; done)
    rename_i y ys h1 h2
    simp only [Option.some.injEq] at hc; subst hc
    simp only [rvs] at e
    split at e <;> try (cases e; done)
    rename_i v l h3 h4
    simp only [Option.some.injEq] at e; subst e
    obtain ⟨r, g1, g2⟩ := rv_sound (P := P) s ht h1 h3
    obtain ⟨rs, g3, g4⟩ := rvs_sound s ht h2 h4
    refine ⟨r :: rs, ?_, concs_cons.2 ⟨r, rs, g2, g4, rfl⟩⟩
    rw [List.mapM_cons]
    simp only [Sem.run_bind, g1, g3, Result.andThen_ok, Sem.run_pure]
theorem results_sound {ρ : Rho} {h : Heap} {w : World} (s : Sim G ρ h w) {tm : List V} {t : Array Value} (ht : TRel ρ tm t) {fn : Func} {ys : List RV} (hc : cRVs P fn.results.toList = some ys) {l : List V} (hl : rvs G tm h ys = some l) :
    ∃ r, (results fn t).run P w = .ok r w ∧ conc ρ (one l) = some r := by
  obtain ⟨rs, h1, h2⟩ := rvs_sound (P := P) s ht hc hl
  have hm : (fn.results.mapM (rvSem t)).run P w = .ok rs.toArray w := by
    rw [Array.mapM_eq_mapM_toList]
    simp only [Sem.run_map, h1, Result.andThen_ok]
  rw [results_eq]
  simp only [Sem.run_bind, hm, Result.andThen_ok, Sem.run_pure]
  refine ⟨_, rfl, ?_⟩
  have hlen := concs_length h2
  match l, rs, h2, hlen with
  | [], [], _, _ => simp [one, conc, concs]
  | [v], [r], h2, _ =>
    obtain ⟨x, y, g1, g2, g3⟩ := concs_cons.1 h2
    simp only [List.cons.injEq] at g3
    obtain ⟨rfl, rfl⟩ := g3
    simpa [one] using g1
  | u :: v :: l, x :: y :: rs, h2, _ => simp [one, conc, h2]
theorem run_ret {f : FuncId} {n : Nat} {Q : V → Heap → Prop} {fn : Func} (hf : P.funcs[f]? = some fn) {ys : List RV} (hc : cRVs P fn.results.toList = some ys) {k : List TI} {st : St} {l : List V} (hl : rvs G st.tmps st.heap ys = some l) (hq : Q (one l) st.heap) :
    Run P G f n Q (.c .ret :: k, st) := by
  intro ρ₀ h₀ w₀ ρ a w hn hk hsim ht hd
  simp only [Stmt]
  intro todo hm
  obtain ⟨y, r, rfl, h1, h2⟩ := matchL_cons hm
  cases y <;> simp only [MatchI] at h1 <;> try (exact h1.elim)
  have := cCode_inv h1; simp only at this; subst this
  obtain ⟨L, d1, d2, d3⟩ := hd.1
  have hs' := shut_sim hsim L fun D hD => (d3 D hD).2
  obtain ⟨x, g1, g2⟩ := results_sound (P := P) hs' ht hc hl
  exact Fin.ret hf d1 d2 (fun D hD => (d3 D hD).2) g1 ⟨ρ, _, _, x, rfl, g2, hs', shut_keeps hk L fun D hD => (d3 D hD).1, hq⟩
theorem run_end {f : FuncId} {n : Nat} {Q : V → Heap → Prop} {fn : Func} (hf : P.funcs[f]? = some fn) {ys : List RV} (hc : cRVs P fn.results.toList = some ys) {st : St} {l : List V} (hl : rvs G st.tmps st.heap ys = some l) (hq : Q (one l) st.heap) :
    Run P G f n Q ([], st) := by
  intro ρ₀ h₀ w₀ ρ a w hn hk hsim ht hd
  simp only [Stmt]
  intro todo hm
  cases todo with
  | cons y r => exact hm.elim
  | nil =>
    obtain ⟨L, d1, d2, d3⟩ := hd.1
    have hs' := shut_sim hsim L fun D hD => (d3 D hD).2
    obtain ⟨x, g1, g2⟩ := results_sound (P := P) hs' ht hc hl
    exact Fin.ends hf d1 d2 (fun D hD => (d3 D hD).2) g1 ⟨ρ, _, _, x, rfl, g2, hs', shut_keeps hk L fun D hD => (d3 D hD).1, hq⟩
theorem vcall_of {f : FuncId} {fn : Func} (hf : P.funcs[f]? = some fn) (hnm : (fn.name == "runtime.NumGoroutine") = false) {c : Code} (hb : fn.body = some c) {vc : VC} (hvc : cCode P c = some vc) {nt : Nat} (hnt : fn.ntmps = nt)
    {args : List V} {h : Heap} {Q : V → Heap → Prop} (hrun : Run P G f h.length Q ([.c vc], ⟨args ++ List.replicate (nt - args.length) .unk, h⟩)) : VCall P G f args h Q := by
  intro ρ w rargs hs ha
  refine .inl ⟨?_, ?_⟩
  · have h1 : fn.name ≠ "runtime.NumGoroutine" := by simpa using hnm
    simp [callFunc, hf, h1, hb]
  · have hlen := concs_length ha
    refine calls_of_fin hf hb (stmt_of (hrun ρ h w ρ _ w ⟨rfl, hs.rlen⟩ (Keeps.refl _ _ _) hs ⟨?_, ?_⟩ ⟨DfrM.nil _ _ _, fun h => by cases h⟩) (todo := [.code c]) ⟨hvc, trivial⟩)
    · simp [hnt, hlen]
    · intro i v hv hu
      rcases Nat.lt_or_ge i args.length with hi | hi
      · rw [List.getElem?_append_left hi] at hv
        obtain ⟨r, g1, g2⟩ := concs_get ha i v hv
        refine ⟨r, g1, ?_⟩
        rw [Array.getElem?_append_left (by simpa [hlen] using hi)]
        simpa using g2
      · rw [List.getElem?_append_right hi, List.getElem?_replicate] at hv
        split at hv
        · simp only [Option.some.injEq] at hv; exact absurd hv.symm hu
        · cases hv
end
section
def methV (P : Program) (t : TypeId) (name : String) : Option FuncId :=
  match P.info? t with
  | some i => match i.methods.find? (·.name == name) with
    | some m => if m.path.isEmpty = true then match m.func with
      | some (f, p) => match P.underlying t with
        | some (.pointer _) => if p = true then some f else none
        | some _ => if p = true then none else some f
        | none => none
      | none => none else none
    | none => none
  | none => none
def calV (P : Program) (tm : List V) : Cal → List A → Option (FuncId × List V)
  | .fn f, xs => (evs tm xs).map fun l => (f, l)
  | .val a, xs => match ev tm a, evs tm xs with
    | .fn (.func f) first captured, some l => some (f, first ++ l ++ captured)
    | _, _ => none
  | .inv a name, xs => match ev tm a, evs tm xs with
    | .ifc t v, some l => (methV P t name).map fun f => (f, v :: l)
    | _, _ => none
theorem run_method {t : TypeId} {name : String} {f : FuncId} (h : methV P t name = some f) (v : Value) (n : Nat) (w : World) : (Go.method (n + 1) t v name).run P w = .ok (f, v) w := by
  unfold methV at h
  split at h <;> try (cases h; done)
  rename_i i hi
  split at h <;> try (cases h; done)
  rename_i m hm
  split at h <;> try (cases h; done)
  rename_i hp
  split at h <;> try (cases h; done)
  rename_i g p hf
  have hpl : m.path.toList = [] := by
    have : m.path = #[] := by simpa using hp
    rw [this]
  have e1 : (follow m.path.toList t (.val v)).run P w = .ok (t, .val v) w := by rw [hpl]; rfl
  split at h <;> try (cases h; done)
  · rename_i e hu
    split at h <;> try (cases h; done)
    rename_i hpt
    simp only [Option.some.injEq] at h; subst h; subst hpt
    simp [method, typeInfo, hi, hm, e1, hf, receiverAt, run_underlying hu, Place.get]
  · rename_i d hnp hu
    split at h <;> try (cases h; done)
    rename_i hpt
    simp only [Option.some.injEq] at h; subst h
    have hpt' : p = false := by simpa using hpt
    subst hpt'
    have hrec : ∀ wr, (receiverAt t (.val v) false wr).run P w = .ok v w := by
      intro wr
      simp only [receiverAt, Sem.run_bind, run_underlying hu, Result.andThen_ok]
      cases d <;> first | rfl | exact absurd rfl (hnp _)
    simp [method, typeInfo, hi, hm, e1, hf, hrec]
theorem cal_sound {ρ : Rho} {tm : List V} {re : Operand → Value} (he : EvRel ρ tm re) {c : Call} {cal : Cal} {xs : List A} (hc : cCal c.callee = some cal) (hx : cAs c.args.toList = some xs) {f : FuncId} {args : List V} (hv : calV P tm cal xs = some (f, args)) (ty : TypeId) (w : World) :
    ∃ rargs, concs ρ args = some rargs ∧ (do let d ← resolve re c ty; invoke d.target d.args : Sem Next).run P w = (callFunc f rargs.toArray).run P w := by
  obtain ⟨callee, as, ts⟩ := c
  simp only at hc hx
  have hl : ∀ l, evs tm xs = some l → concs ρ l = some (as.toList.map re) := fun l hl => opAs he hx hl
  have fnc : ∀ (x : Operand) (a : A), cA x = some a → cal = .val a → callee = .value x → ∃ rargs, concs ρ args = some rargs ∧ (do let d ← resolve re ⟨callee, as, ts⟩ ty; invoke d.target d.args : Sem Next).run P w = (callFunc f rargs.toArray).run P w := by
    rintro x a ha rfl rfl
    simp only [calV] at hv
    split at hv <;> try (cases hv; done)
    rename_i g fi ca l hev hls
    simp only [Option.some.injEq, Prod.mk.injEq] at hv
    obtain ⟨rfl, rfl⟩ := hv
    have hX := opU he ha hev (by simp)
    simp only [conc, Option.bind_eq_some_iff, Option.map_eq_some_iff] at hX
    obtain ⟨p, hp, q, hq, hr⟩ := hX
    refine ⟨p ++ as.toList.map re ++ q, concs_append (concs_append hp (hl l hls)) hq, ?_⟩
    simp only [resolve, ← hr, Deferred.ofValue, Sem.run_bind, Sem.run_pure, Result.andThen_ok, invoke]
    congr 2
    apply Array.ext'
    simp
  cases callee with
  | builtin b => simp [cCal] at hc
  | value x =>
    cases x with
    | func g =>
      simp only [cCal, Option.some.injEq] at hc; subst hc
      simp only [calV, Option.map_eq_some_iff, Prod.mk.injEq] at hv
      obtain ⟨l, hls, rfl, rfl⟩ := hv
      refine ⟨as.toList.map re, hl _ hls, ?_⟩
      have h0 := he (.func g) (.f g) rfl _ rfl (by simp [ev])
      simp [ev, conc, concs] at h0
      simp only [resolve, ← h0, Deferred.ofValue, Sem.run_bind, Sem.run_pure, Result.andThen_ok, invoke]
      congr 2
      apply Array.ext'
      simp
    | tmp t =>
      simp only [cCal, Option.map_eq_some_iff] at hc
      obtain ⟨a, ha, rfl⟩ := hc
      exact fnc _ a ha rfl rfl
    | const t =>
      simp only [cCal, Option.map_eq_some_iff] at hc
      obtain ⟨a, ha, rfl⟩ := hc
      exact fnc _ a ha rfl rfl
    | global t =>
      simp only [cCal, Option.map_eq_some_iff] at hc
      obtain ⟨a, ha, rfl⟩ := hc
      exact fnc _ a ha rfl rfl
  | invoke x name =>
    simp only [cCal, Option.map_eq_some_iff] at hc
    obtain ⟨a, ha, rfl⟩ := hc
    simp only [calV] at hv
    split at hv <;> try (cases hv; done)
    rename_i t u l hev hls
    simp only [Option.map_eq_some_iff, Prod.mk.injEq] at hv
    obtain ⟨g, hg, rfl, rfl⟩ := hv
    have hX := opU he ha hev (by simp)
    simp only [conc, Option.map_eq_some_iff] at hX
    obtain ⟨p, hp, hr⟩ := hX
    refine ⟨p :: as.toList.map re, concs_cons.2 ⟨p, _, hp, hl l hls, rfl⟩, ?_⟩
    have h2 : (#[Value.iface t p] ++ as.map re).extract 1 (#[Value.iface t p] ++ as.map re).size = as.map re := by
      apply Array.ext'
      simp [List.extract]
      exact List.take_of_length_le (by simp)
    have h1 : (#[Value.iface t p] ++ as.map re)[0]? = some (.iface t p) := by rw [Array.getElem?_append_left (Nat.lt_succ_self 0)]; rfl
    have hd : P.types.size + Made.depth = (P.types.size + Made.depth - 1) + 1 := by
      have : 0 < Made.depth := by decide
      omega
    have h3 : (callMethod (.iface t p) name (as.map re)).run P w = (callFunc g (p :: as.toList.map re).toArray).run P w := by
      simp only [callMethod, Sem.run_bind, run_program, Result.andThen_ok]
      rw [hd, run_method hg p _ w]
      simp only [Result.andThen_ok]
      congr 2
      apply Array.ext'
      simp
    rw [← h3]
    have h4 : invoke (.fn (.method name) #[]) (#[Value.iface t p] ++ as.map re) = callMethod (.iface t p) name (as.map re) := by
      show (match (#[Value.iface t p] ++ as.map re)[0]? with | some recv => callMethod recv name ((#[Value.iface t p] ++ as.map re).extract 1 (#[Value.iface t p] ++ as.map re).size) | _ => _) = _
      rw [h1, h2]
    simp only [resolve, ← hr, Sem.run_bind, Sem.run_pure, Result.andThen_ok, h4]
theorem calV_call {f : FuncId} {n : Nat} {md : Md} {Q : V → Heap → Prop} {d : Option Nat} {g : Option (Nat × Bool)} {cal : Cal} {xs : List A} {l : List VI} {k : List TI} {st : St} (hg : wantV st.tmps g = some true)
    {f' : FuncId} {args : List V} (hcal : calV P st.tmps cal xs = some (f', args)) (h : VCall P G f' args st.heap fun v h' => RunM P G f n md Q (.r l :: k, ⟨setd st.tmps d v, h'⟩)) :
    RunM P G f n md Q (.r (.call d g cal xs :: l) :: k, st) := by
  intro ρ₀ h₀ w₀ ρ a w hn hk hsim ht hd
  simp only [Stmt]
  intro todo ops idxs hm hr
  cases idxs with
  | nil => exact hr.elim
  | cons i is =>
    obtain ⟨⟨o, ho, hc⟩, hr'⟩ := hr
    obtain ⟨c1, c2, c, c3, c4, c5⟩ := cI_call hc
    obtain ⟨rargs, e1, e2⟩ := cal_sound (P := P) ht.evRel c4 c5 hcal o.type w
    have hrun : (execOp a.eval o).run P w = (callFunc f' rargs.toArray).run P w := by
      rw [← e2]
      obtain ⟨dst, op, ty, pos, after, guard⟩ := o
      simp only at c3
      subst c3
      rfl
    simp only [wpOpsIn, ho]
    rw [if_pos (guard_want ht c1 hg)]
    refine ⟨fun _ _ => trivial, ?_⟩
    rw [Oper.semAt_eq _ _ _ (fun c' e => by rw [c3] at e; cases e), hrun]
    -- behind the call
    have next : ∀ (v : Value) (w' : World), RQ G ρ st.heap w (fun v h' => RunM P G f n md Q (.r l :: k, ⟨setd st.tmps d v, h'⟩)) (.returned v) w' → wpOpsIn (fw (rdOf md.ri ρ₀)) 0 P ops (Nrm (Fin P f (rdOf md.ri ρ₀) (RQ G ρ₀ h₀ w₀ Q) todo)) is (a.put o.dst v) w' := by
      rintro v w' ⟨ρ', u, h', r, h1, h2, h3, h4, h5⟩
      cases h1
      rw [c2]
      exact h5 ρ₀ h₀ w₀ ρ' (a.put d v) w' hn (Keeps.trans hsim.plc hk h4) h3 (TRel.setd (ht.ext h4.ext) d h2) (by rw [put_defers']; exact hd.keep hsim h4) todo ops is hm hr'
    rcases h ρ w rargs hsim e1 with ⟨g1, g2⟩ | ⟨v, w', g1, g2⟩
    · rw [g1]
      refine ⟨fun h => (by cases h), callsIn_fw (g2.mono fun e w' he => ?_)⟩
      cases e with
      | returned v => exact next v w' he
      | panicked ch => obtain ⟨ρ', v, h', r', hbad, _⟩ := he; cases hbad
      | outgrown => obtain ⟨ρ', v, h', r', hbad, _⟩ := he; cases hbad
    · rw [g1]
      exact next v w' g2
end
section
def Agree (tm tm' : List V) (as : List A) : Prop := ∀ a, a ∈ as → ev tm a = ev tm' a
theorem optA_congr {tm tm' : List V} {as : List A} (h : Agree tm tm' as) {d : Int} {x : Option A} (hx : ∀ a, x = some a → a ∈ as) : optA tm d x = optA tm' d x := by
  cases x with
  | none => rfl
  | some a => simp only [optA]; rw [h a (hx a rfl)]
theorem evs_congr {tm tm' : List V} : ∀ {l : List A}, Agree tm tm' l → evs tm l = evs tm' l
  | [], _ => rfl
  | a :: l, h => by
    simp only [evs]
    rw [h a (by simp), evs_congr (l := l) fun b hb => h b (by simp [hb])]
theorem fillV_congr {tm tm' : List V} : ∀ {l : List (Nat × Nat × A)} {cells : List V}, Agree tm tm' (l.map (·.2.2)) → fillV cells tm l = fillV cells tm' l
  | [], _, _ => rfl
  | (off, size, a) :: l, cells, h => by
    simp only [fillV]
    rw [h a (by simp)]
    split
    · split
      · exact fillV_congr fun b hb => h b (by simp at hb ⊢; exact .inr hb)
      · rfl
    · rfl
theorem expo_congr {tm tm' : List V} {o : POp} (h : Agree tm tm' o.as) : expo tm o = expo tm' o := by
  cases o <;> simp only [POp.as] at h
  case bld z ps => simp only [expo]; rw [fillV_congr h]
  case mkF f a c => simp only [expo]; rw [evs_congr fun b hb => h b (by simp [hb]), evs_congr (l := c) fun b hb => h b (by simp [hb])]
  case sle s x lo hi mx =>
    have e1 := h x (by simp)
    have e2 : ∀ d, optA tm d lo = optA tm' d lo := fun d => optA_congr h (by rintro a rfl; simp)
    have e3 : ∀ d, optA tm d hi = optA tm' d hi := fun d => optA_congr h (by rintro a rfl; simp)
    have e4 : ∀ d, optA tm d mx = optA tm' d mx := fun d => optA_congr h (by rintro a rfl; simp)
    simp only [expo, e1, e2, e3, e4]
  case slt x lo hi =>
    have e1 := h x (by simp)
    have e2 : ∀ d, optA tm d lo = optA tm' d lo := fun d => optA_congr h (by rintro a rfl; simp)
    have e3 : ∀ d, optA tm d hi = optA tm' d hi := fun d => optA_congr h (by rintro a rfl; simp)
    simp only [expo, e1, e2, e3]
  case sla n s x lo hi mx =>
    have e1 := h x (by simp)
    have e2 : ∀ d, optA tm d lo = optA tm' d lo := fun d => optA_congr h (by rintro a rfl; simp)
    have e3 : ∀ d, optA tm d hi = optA tm' d hi := fun d => optA_congr h (by rintro a rfl; simp)
    have e4 : ∀ d, optA tm d mx = optA tm' d mx := fun d => optA_congr h (by rintro a rfl; simp)
    simp only [expo, e1, e2, e3, e4]
  case pick c a b => simp only [expo, h c (by simp), h a (by simp), h b (by simp)]
  case lena n => rfl
  all_goals first
    | (rename_i x; simp only [expo, h x (by simp)]; done)
    | (rename_i x y; simp only [expo, h x (by simp), h y (by simp)]; done)
    | (simp only [expo]; simp_all [Agree])
theorem exo_congr {tm tm' : List V} {h : Heap} {o : VOp} (ha : Agree tm tm' o.as) : exo G tm h o = exo G tm' h o := by
  cases o <;> simp only [VOp.as] at ha
  case p o => simp only [exo]; rw [expo_congr ha]
  case ld agg n a => simp only [exo, ha a (by simp)]
  case slx s x lo hi mx =>
    have e1 := ha x (by simp)
    have e2 : ∀ d, optA tm d lo = optA tm' d lo := fun d => optA_congr ha (by rintro a rfl; simp)
    have e3 : ∀ d, optA tm d hi = optA tm' d hi := fun d => optA_congr ha (by rintro a rfl; simp)
    have e5 : expo tm (.sle s x lo hi mx) = expo tm' (.sle s x lo hi mx) := expo_congr ha
    have e4 : optM tm mx = optM tm' mx := by
      cases mx with
      | none => rfl
      | some m => simp only [optM, ha m (by simp)]
    simp only [exo, e1, e2, e3, e4, e5]
  case new z => rfl
  case box x => simp only [exo, ha x (by simp)]
  case bsl len z ps => simp only [exo]; rw [fillV_congr ha]
  case mks s b z l c => simp only [exo, ha l (by simp), ha c (by simp)]
  case st n a x => simp only [exo, ha a (by simp), ha x (by simp)]
  case app s b str x y => simp only [exo, ha x (by simp), ha y (by simp)]
  case cpy s x y => simp only [exo, ha x (by simp), ha y (by simp)]
  case cvs x => simp only [exo, ha x (by simp)]
  case bad => rfl
theorem calV_congr {tm tm' : List V} {cal : Cal} {xs : List A} (h : Agree tm tm' (cal.as ++ xs)) : calV P tm cal xs = calV P tm' cal xs := by
  have e := evs_congr (l := xs) fun b hb => h b (by simp [hb])
  cases cal <;> simp only [calV, e]
  case val a => rw [h a (by simp [Cal.as])]
  case inv a n => rw [h a (by simp [Cal.as])]
def lookId (tm : List V) : VOp → Option Nat
  | .ld _ _ a => match ev tm a with | .ptr i _ => some i | _ => none
  | .slx _ x _ _ _ => match ev tm x with | .sl i _ _ (.grow _) => some i | _ => none
  | .cvs x => match ev tm x with | .sl i _ _ _ => some i | _ => none
  | _ => none
def exA (tm : List V) : VOp → Option ((Nat → V) × List V)
  | .new z => some (fun i => .ptr i 0, z)
  | .box x => (kn (ev tm x)).map fun v => (fun i => .ptr i 0, cellsOf v)
  | .bsl len z ps => (fillV z tm ps).map fun cs => (fun i => .sl i 0 len (.exact len), cs)
  | .mks _ bytes z l c => match asN (ev tm l), asN (ev tm c) with
    | some l, some c => if 0 ≤ l ∧ l ≤ c ∧ (bytes : Int) * c ≤ 281474976710656 ∧ c ≤ 9223372036854775807 then some (fun i => .sl i 0 l.toNat (.exact c.toNat), (List.replicate c.toNat z).flatten) else none
    | _, _ => none
  | _ => none
theorem exA_congr {tm tm' : List V} {o : VOp} (ha : Agree tm tm' o.as) : exA tm o = exA tm' o := by
  cases o <;> simp only [VOp.as] at ha <;> try rfl
  case box x => simp only [exA, ha x (by simp)]
  case bsl len z ps => simp only [exA]; rw [fillV_congr ha]
  case mks s b z l c => simp only [exA, ha l (by simp), ha c (by simp)]
theorem looks_heap {tm : List V} {h h' : Heap} {o : VOp} {v : V} (hl : o.looks = true) (he : exo G tm h o = some (v, h')) : h' = h := by
  cases o <;> simp [VOp.looks] at hl
  case p o => simp only [exo, Option.map_eq_some_iff, Prod.mk.injEq] at he; obtain ⟨_, _, _, rfl⟩ := he; rfl
  case ld agg n a =>
    simp only [exo] at he
    repeat' (split at he)
    all_goals first | (cases he; done) | (simp only [Option.some.injEq, Prod.mk.injEq] at he; exact he.2.symm)
  case slx s x lo hi mx =>
    simp only [exo] at he
    repeat' (split at he)
    all_goals first | (cases he; done) | (simp only [Option.some.injEq, Prod.mk.injEq] at he; exact he.2.symm) | (simp only [Option.map_eq_some_iff, Prod.mk.injEq] at he; obtain ⟨_, _, _, rfl⟩ := he; rfl)
  case cvs x =>
    simp only [exo] at he
    repeat' (split at he)
    all_goals first | (cases he; done) | (simp only [Option.some.injEq, Prod.mk.injEq] at he; exact he.2.symm) | (simp only [Option.map_eq_some_iff, Prod.mk.injEq] at he; obtain ⟨_, _, _, rfl⟩ := he; rfl)
theorem looks_same {tm : List V} {h h' : Heap} {o : VOp} {v : V} (hl : o.looks = true) (he : exo G tm h o = some (v, h)) (hb : ∀ i, lookId tm o = some i → h'[i]? = h[i]?) : exo G tm h' o = some (v, h') := by
  cases o <;> simp [VOp.looks] at hl
  case p o => simp only [exo, Option.map_eq_some_iff, Prod.mk.injEq] at he ⊢; obtain ⟨u, hu, rfl, _⟩ := he; exact ⟨u, hu, rfl, trivial⟩
  case ld agg n a =>
    have : ldc G h' (ev tm a) n = ldc G h (ev tm a) n := by
      cases hev : ev tm a <;> simp only [ldc]
      rename_i i o
      rw [hb i (by simp [lookId, hev])]
    simp only [exo, this] at he ⊢
    repeat' (split at he)
    all_goals simp_all
  case slx s x lo hi mx =>
    simp only [exo] at he ⊢
    split at he
    · rename_i i o len s' hev
      rw [hb i (by simp [lookId, hev])]
      repeat' (split at he)
      all_goals simp_all
    · rename_i hne
      simp only [Option.map_eq_some_iff, Prod.mk.injEq] at he
      obtain ⟨u, hu, rfl, _⟩ := he
      first | simp [hu] | (split <;> simp_all)
  case cvs x =>
    simp only [exo] at he ⊢
    split at he <;> try (cases he; done)
    · simp_all
    · rename_i i o n c hev
      have : ldc G h' (.ptr i o) n = ldc G h (.ptr i o) n := by
        simp only [ldc]
        rw [hb i (by simp [lookId, hev])]
      rw [this]
      repeat' (split at he)
      all_goals simp_all
theorem lookId_congr {tm tm' : List V} {o : VOp} (ha : Agree tm tm' o.as) : lookId tm o = lookId tm' o := by
  cases o <;> simp only [VOp.as] at ha <;> try rfl
  case ld agg n a => simp only [lookId, ha a (by simp)]
  case slx s x lo hi mx => simp only [lookId, ha x (by simp)]
  case cvs x => simp only [lookId, ha x (by simp)]
theorem look_live {tm : List V} {h h' : Heap} {o : VOp} {v : V} (hl : o.looks = true) (he : exo G tm h o = some (v, h')) {i : Nat} (hi : lookId tm o = some i) : ∃ b, Live h i b := by
  cases o <;> simp [VOp.looks] at hl
  case p o => simp [lookId] at hi
  case ld agg n a =>
    simp only [lookId] at hi
    split at hi <;> try (cases hi; done)
    rename_i j o hev
    simp only [Option.some.injEq] at hi; subst hi
    simp only [exo] at he
    split at he <;> try (cases he; done)
    rename_i l hl'
    rw [hev] at hl'
    simp only [ldc] at hl'
    split at hl' <;> try (cases hl'; done)
    rename_i b hb
    exact ⟨b, hb⟩
  case slx s x lo hi' mx =>
    simp only [lookId] at hi
    split at hi <;> try (cases hi; done)
    rename_i j o len s' hev
    simp only [Option.some.injEq] at hi; subst hi
    simp only [exo, hev] at he
    split at he <;> try (cases he; done)
    rename_i b hb
    exact ⟨b, hb⟩
  case cvs x =>
    simp only [lookId] at hi
    split at hi <;> try (cases hi; done)
    rename_i j o len c hev
    simp only [Option.some.injEq] at hi; subst hi
    simp only [exo, hev] at he
    split at he <;> try (cases he; done)
    rename_i l hl'
    simp only [ldc] at hl'
    split at hl' <;> try (cases hl'; done)
    rename_i b hb
    exact ⟨b, hb⟩
end
end Go.Vs
