/- Text 4 of 11 of this claim: a machine of plain values beside the model, what the functions of the program and of the reference answer over it, and last the row and its card. -/
import Derived.Test.YtgppccahbcbanaaDoorK3
import Derived.Laws.Externs
import Derived.Laws.BitsLemmas
import Derived.Laws.BitsAllLaws
set_option linter.unusedVariables false
set_option linter.unusedSimpArgs false
namespace Go.Vs
variable {P : Program} {G : Nat → List V}
section
def renB (g : Nat → Nat) (b : Blk) : Blk := ⟨b.kind, rens g b.cells⟩
def puts (g : Nat → Nat) : Heap → Heap → List Nat → Heap → Heap
  | b0 :: h', b1 :: h'', i :: μ, h => puts g h' h'' μ (if wrB b0 = true then h.set i (b1.map (renB g)) else h)
  | _, h'', _, h => h ++ h''.map (Option.map (renB g))
theorem puts_length (g : Nat → Nat) : ∀ {h' h'' : Heap} {μ : List Nat} {h : Heap}, μ.length = h'.length → h'.length ≤ h''.length → (puts g h' h'' μ h).length = h.length + (h''.length - h'.length)
  | [], h'', μ, h, _, _ => by simp [puts]
  | b0 :: h', [], _, _, _, hl => by simp at hl
  | b0 :: h', b1 :: h'', [], _, hm, _ => by simp at hm
  | b0 :: h', b1 :: h'', i :: μ, h, hm, hl => by
    simp only [puts]
    rw [puts_length g (by simpa using hm) (by simpa using hl)]
    split <;> simp
theorem puts_live (g : Nat → Nat) : ∀ {h' h'' : Heap} {μ : List Nat} {h : Heap}, μ.length = h'.length → h'.length ≤ h''.length → ∀ {i b}, Live (puts g h' h'' μ h) i b →
    (∃ j b0 b1, μ[j]? = some i ∧ h'[j]? = some b0 ∧ wrB b0 = true ∧ Live h'' j b1 ∧ b = renB g b1) ∨ (Live h i b ∧ ∀ (j : Nat) (b0 : Option Blk), μ[j]? = some i → h'[j]? = some b0 → wrB b0 = false) ∨
      (∃ j b1, h'.length ≤ j ∧ i = h.length + (j - h'.length) ∧ Live h'' j b1 ∧ b = renB g b1)
  | [], h'', μ, h, hm, _, i, b, hl => by
    have e : puts g [] h'' μ h = h ++ h''.map (Option.map (renB g)) := by cases h'' <;> cases μ <;> rfl
    rw [e] at hl
    unfold Live at hl
    rcases Nat.lt_or_ge i h.length with hi | hi
    · rw [List.getElem?_append_left hi] at hl
      exact .inr (.inl ⟨hl, fun j b0 h1 => by have : μ = [] := by simpa using hm
                                              subst this; simp at h1⟩)
    · rw [List.getElem?_append_right hi, List.getElem?_map] at hl
      cases hx : h''[i - h.length]? with
      | none => simp [hx] at hl
      | some y =>
        simp only [hx, Option.map_some, Option.some.injEq] at hl
        cases y with
        | none => simp at hl
        | some b1 =>
          simp only [Option.map_some, Option.some.injEq] at hl
          exact .inr (.inr ⟨i - h.length, b1, Nat.zero_le _, by simp; omega, hx, hl.symm⟩)
  | b0 :: h', [], _, _, _, hl, _, _, _ => by simp at hl
  | b0 :: h', b1 :: h'', [], _, hm, _, _, _, _ => by simp at hm
  | b0 :: h', b1 :: h'', k :: μ, h, hm, hl, i, b, hli => by
    simp only [puts] at hli
    rcases puts_live g (by simpa using hm) (by simpa using hl) hli with ⟨j, c0, c1, e1, e2, e3, e4, e5⟩ | ⟨e1, e2⟩ | ⟨j, c1, e1, e2, e3, e4⟩
    · exact .inl ⟨j + 1, c0, c1, by simpa using e1, by simpa using e2, e3, by simpa [Live] using e4, e5⟩
    · by_cases hw : wrB b0 = true
      · rw [if_pos hw] at e1
        unfold Live at e1
        rw [List.getElem?_set] at e1
        by_cases hk : k = i
        · subst hk
          rw [if_pos rfl] at e1
          split at e1 <;> try (cases e1; done)
          simp only [Option.some.injEq] at e1
          cases b1 with
          | none => simp at e1
          | some b1 =>
            simp only [Option.map_some, Option.some.injEq] at e1
            exact .inl ⟨0, b0, b1, rfl, rfl, hw, rfl, e1.symm⟩
        · rw [if_neg hk] at e1
          refine .inr (.inl ⟨e1, fun j c0 h1 h2 => ?_⟩)
          cases j with
          | zero => simp at h1; exact absurd h1 hk
          | succ j => exact e2 j c0 (by simpa using h1) (by simpa using h2)
      · rw [if_neg hw] at e1
        refine .inr (.inl ⟨e1, fun j c0 h1 h2 => ?_⟩)
        cases j with
        | zero => simp at h2; subst h2; simpa using hw
        | succ j => exact e2 j c0 (by simpa using h1) (by simpa using h2)
    · refine .inr (.inr ⟨j + 1, c1, by simpa using e1, ?_, by simpa [Live] using e3, e4⟩)
      rw [e2]
      have : (if wrB b0 = true then h.set k (b1.map (renB g)) else h).length = h.length := by split <;> simp
      rw [this]; simp
theorem frame_back {ρ ρ' : Rho} {h h' h'' : Heap} {w w' : World} {μ : List Nat} (s : Sim G ρ h w) (hin : ∀ i ∈ μ, i < h.length) (hf : hfit (gmap μ h.length) h μ h') (hu : uniq μ h') (s'' : Sim G ρ' h'' w') (k : Keeps (sub ρ μ) h' w ρ' h'' w') :
    let ρ3 := ρ ++ ρ'.drop μ.length
    let h3 := puts (gmap μ h.length) h' h'' μ h
    Sim G ρ3 h3 w' ∧ Keeps ρ h w ρ3 h3 w' ∧ ∀ i, place ρ' i = place ρ3 (gmap μ h.length i) := by
  intro ρ3 h3
  obtain ⟨hlen, hget⟩ := hfit_get hf
  have s' := sub_sim s hf hu
  have hsl : (sub ρ μ).length = μ.length := by simp [sub]
  have hρ : ρ.length = h.length := s.rlen
  have hl'' : h'.length ≤ h''.length := k.len
  have hρ' : ρ'.length = h''.length := s''.rlen
  have hout : ∀ i, ρ.length ≤ i → place (sub ρ μ) i = none ∨ True := fun _ _ => .inr trivial
  have p2 : ∀ i, i < ρ.length → place ρ3 i = place ρ i := by
    intro i hi
    show place (ρ ++ ρ'.drop μ.length) i = place ρ i
    unfold place
    rw [List.getElem?_append_left hi]
  have p3 : ∀ j, μ.length ≤ j → place ρ3 (h.length + (j - μ.length)) = place ρ' j := by
    intro j hj
    show place (ρ ++ ρ'.drop μ.length) _ = place ρ' j
    unfold place
    rw [List.getElem?_append_right (by omega), List.getElem?_drop]
    rw [show μ.length + (h.length + (j - μ.length) - ρ.length) = j by omega]
  have hμlt : ∀ j i, μ[j]? = some i → (∃ b, Live h' j b) → i < h.length := by
    rintro j i h1 ⟨b, h2⟩
    obtain ⟨i', b', e1, e2, _⟩ := hget j b h2
    rw [h1] at e1; cases e1
    exact e2.lt
  have p0 : ∀ j, j < μ.length → place ρ' j = place (sub ρ μ) j := by
    intro j hj
    cases hp : place (sub ρ μ) j with
    | some p => exact k.ext j p hp
    | none => exact k.unb j (by rw [← hlen]; exact hj) (by rw [hsl]; exact hj) hp
  have p1 : ∀ j, place ρ' j = place ρ3 (gmap μ h.length j) := by
    intro j
    rcases Nat.lt_or_ge j μ.length with hj | hj
    · rw [p0 j hj, place_sub_g, hρ]
      have e : μ[j]? = some μ[j] := List.getElem?_eq_getElem hj
      rw [gmap_lt e]
      rw [p2 _ (by rw [hρ]; exact hin _ (List.getElem_mem hj))]
    · rw [gmap_ge hj, p3 j hj]
  -- what may be written within the call may be written outside
  have wrs : ∀ n, WR (sub ρ μ) h' n → ∃ j i b0 b p, μ[j]? = some i ∧ Live h' j b0 ∧ b0.kind ≠ .ro ∧ Live h i b ∧ b.kind ≠ .ro ∧ place ρ i = some p ∧ p.block = n := by
    rintro n ⟨j, b, p, hl, hp, hk, he⟩
    obtain ⟨i, b1, h1, h2, h3', _⟩ := hget j b hl
    refine ⟨j, i, b, b1, p, h1, hl, hk, h2, ?_, ?_, he⟩
    · rcases h3' with e | e
      · rw [← e]; exact hk
      · exact absurd e.1 hk
    · rw [place_sub, h1] at hp; exact hp
  have wrs' : ∀ n, WR (sub ρ μ) h' n → WR ρ h n := fun n hn => by
    obtain ⟨j, i, b0, b, p, _, _, _, h1, h2, h3', h4⟩ := wrs n hn
    exact ⟨i, b, p, h1, h3', h2, h4⟩
  -- the two sorts of blocks
  have new : ∀ {i b p}, Live h3 i b → place ρ3 i = some p → (∃ j b1, gmap μ h.length j = i ∧ Live h'' j b1 ∧ b = renB (gmap μ h.length) b1 ∧ place ρ' j = some p ∧ (j < μ.length → ∃ b0, Live h' j b0 ∧ b0.kind ≠ .ro) ∧ (μ.length ≤ j → h.length ≤ i)) ∨
      (Live h i b ∧ place ρ i = some p ∧ ¬ WR (sub ρ μ) h' p.block) := by
    intro i b p hl hp
    rcases puts_live _ hlen hl'' hl with ⟨j, b0, b1, e1, e2, e3, e4, e5⟩ | ⟨e1, e2⟩ | ⟨j, b1, e1, e2, e3, e4⟩
    · have hg := gmap_lt (L := h.length) e1
      refine .inl ⟨j, b1, hg, e4, e5, by rw [p1 j, hg]; exact hp, fun _ => ?_, fun hj => ?_⟩
      · cases b0 with
        | none => simp [wrB] at e3
        | some b0 => exact ⟨b0, e2, wrB_iff.1 e3⟩
      · have := (List.getElem?_eq_some_iff.1 e1).1; omega
    · have hi : i < ρ.length := by rw [hρ]; exact e1.lt
      rw [p2 i hi] at hp
      refine .inr ⟨e1, hp, fun hw => ?_⟩
      obtain ⟨j, i', b0, b', p', g1, g2, g3, g4, g5, g6, g7⟩ := wrs _ hw
      by_cases hii : i' = i
      · subst hii
        have := e2 j _ g1 g2
        rw [wrB_iff.2 g3] at this; cases this
      · exact s.disj i' i b' b p' p hii g4 e1 g6 hp g5 g7
    · rw [← hlen] at e1 e2
      have hg := gmap_ge (L := h.length) e1
      refine .inl ⟨j, b1, by rw [hg, e2], e3, e4, by rw [p1 j, hg, ← e2]; exact hp, fun hj => by omega, fun _ => by omega⟩
  have mixed : ∀ {j b1 i' b' p p'}, Live h'' j b1 → place ρ' j = some p → (j < μ.length → ∃ b0, Live h' j b0 ∧ b0.kind ≠ .ro) → Live h i' b' → place ρ i' = some p' → ¬ WR (sub ρ μ) h' p'.block → (b1.kind ≠ .ro ∨ b'.kind ≠ .ro) → p.block ≠ p'.block := by
    intro j b1 i' b' p p' hl hp hw hl' hp' hnw hk he
    have hsz := (s.blk i' b' p' hl' hp').1
    rcases Nat.lt_or_ge j μ.length with hj | hj
    · obtain ⟨b0, g1, g2⟩ := hw hj
      rw [p0 j hj] at hp
      exact hnw ⟨j, b0, p, g1, hp, g2, he⟩
    · rcases hk with hk | hk
      · exact hnw (k.own _ hsz ⟨j, b1, p, hl, hp, hk, he⟩)
      · rcases k.fresh j b1 p (by rw [← hlen]; exact hj) hl hp with g | g
        · omega
        · rw [he] at g; exact hnw g
  have h3len : h3.length = h.length + (h''.length - h'.length) := puts_length _ hlen hl''
  refine ⟨?_, ?_, p1⟩
  · exact {
      rlen := by rw [h3len]; simp [ρ3, hρ, hρ', hlen]
      plc := fun i b hl => by
        rcases puts_live _ hlen hl'' hl with ⟨j, b0, b1, e1, e2, e3, e4, e5⟩ | ⟨e1, e2⟩ | ⟨j, b1, e1, e2, e3, e4⟩
        · obtain ⟨p, hp⟩ := s''.plc j b1 e4
          exact ⟨p, by rw [← gmap_lt (L := h.length) e1, ← p1 j]; exact hp⟩
        · obtain ⟨p, hp⟩ := s.plc i b e1
          exact ⟨p, by rw [p2 i (by rw [hρ]; exact e1.lt)]; exact hp⟩
        · obtain ⟨p, hp⟩ := s''.plc j b1 e3
          rw [← hlen] at e1 e2
          exact ⟨p, by rw [e2, p3 j e1]; exact hp⟩
      cells := fun i b p hl hp hm t v hv hne => by
        rcases new hl hp with ⟨j, b1, g1, g2, rfl, g4, _⟩ | ⟨g1, g2, g3⟩
        · simp only [renB, rens_get, Option.map_eq_some_iff] at hv
          obtain ⟨v', hv', rfl⟩ := hv
          obtain ⟨r, e1, e2⟩ := s''.cells j b1 p g2 g4 hm t v' hv' (fun e => hne (by rw [e]; rfl))
          exact ⟨r, by rw [← conc_ren (ρ' := ρ') (g := gmap μ h.length) p1]; exact e1, e2⟩
        · obtain ⟨r, e1, e2⟩ := s.cells i b p g1 g2 hm t v hv hne
          refine ⟨r, conc_ext (Ext.append _ _) _ _ e1, ?_⟩
          rw [cells_of_same (k.same _ (s.blk i b p g1 g2).1 g3)]; exact e2
      blk := fun i b p hl hp => by
        rcases new hl hp with ⟨j, b1, g1, g2, rfl, g4, _⟩ | ⟨g1, g2, g3⟩
        · simpa [renB, rens_length] using s''.blk j b1 p g2 g4
        · have := s.blk i b p g1 g2
          exact ⟨Nat.lt_of_lt_of_le this.1 k.size, this.2⟩
      wr := fun i b p hl hp hk => by
        rcases new hl hp with ⟨j, b1, g1, g2, rfl, g4, _⟩ | ⟨g1, g2, g3⟩
        · exact s''.wr j b1 p g2 g4 hk
        · obtain ⟨e1, e2, c, e, fr, e3, e4, e5⟩ := s.wr i b p g1 g2 hk
          have hs := k.same _ (s.blk i b p g1 g2).1 g3
          exact ⟨e1, e2, c, e, fr, by rw [hs]; exact e3, e4, fun t ht => by rw [frozen_of_same hs]; exact e5 t ht⟩
      disj := fun i i' b b' p p' hne hl hl' hp hp' hk => by
        rcases new hl hp with ⟨j, b1, g1, g2, rfl, g4, g5, _⟩ | ⟨g1, g2, g3⟩ <;> rcases new hl' hp' with ⟨j', b1', g1', g2', rfl, g4', g5', _⟩ | ⟨g1', g2', g3'⟩
        · exact s''.disj j j' b1 b1' p p' (fun e => hne (by rw [← g1, ← g1', e])) g2 g2' g4 g4' hk
        · exact mixed g2 g4 g5 g1' g2' g3' (.inl hk)
        · exact (mixed g2' g4' g5' g1 g2 g3 (.inr hk)).symm
        · exact s.disj i i' b b' p p' hne g1 g1' g2 g2' hk
      globs := s''.globs
      gsz := s''.gsz
      lp := fun i b p r hl hp hk => by
        rcases new hl hp with ⟨j, b1, g1, g2, rfl, g4, _⟩ | ⟨g1, g2, g3⟩
        · obtain ⟨e1, e2, e3, e4⟩ := s''.lp j b1 p r g2 g4 hk
          refine ⟨e1, e2, by simpa [renB, rens_length] using e3, fun t v hv hne => ?_⟩
          simp only [renB, rens_get, Option.map_eq_some_iff] at hv
          obtain ⟨v', hv', rfl⟩ := hv
          obtain ⟨x, d1, d2⟩ := e4 t v' hv' (fun e => hne (by rw [e]; rfl))
          exact ⟨x, by rw [← conc_ren (ρ' := ρ') (g := gmap μ h.length) p1]; exact d1, d2⟩
        · obtain ⟨e1, e2, e3⟩ := s.lp i b p r g1 g2 hk
          exact ⟨e1, by rw [k.same _ (s.blk i b p g1 g2).1 g3]; exact e2, e3.ext (Ext.append _ _)⟩ }
  · have own : ∀ n, n < w.heap.size → WR ρ3 h3 n → WR ρ h n := by
      rintro n hn ⟨i, b, p, hl, hp, hk, he⟩
      rcases new hl hp with ⟨j, b1, g1, g2, rfl, g4, g5, _⟩ | ⟨g1, g2, g3⟩
      · exact wrs' n (k.own n hn ⟨j, b1, p, g2, g4, hk, he⟩)
      · exact ⟨i, b, p, g1, g2, hk, he⟩
    exact {
      tape := k.tape, os := k.os, output := k.output, size := k.size
      same := fun n hn hw => k.same n hn fun e => hw (wrs' n e)
      own := own
      fresh := fun i b p hi hl hp => by
        rcases new hl hp with ⟨j, b1, g1, g2, rfl, g4, g5, g6⟩ | ⟨g1, g2, g3⟩
        · rcases Nat.lt_or_ge j μ.length with hj | hj
          · obtain ⟨b0, e1, e2⟩ := g5 hj
            have e : μ[j]? = some μ[j] := List.getElem?_eq_getElem hj
            have := hμlt j _ e ⟨b0, e1⟩
            rw [gmap_lt e] at g1
            omega
          · rcases k.fresh j b1 p (by rw [← hlen]; exact hj) g2 g4 with g | g
            · exact .inl g
            · exact .inr (wrs' _ g)
        · have := g1.lt; omega
      ext := Ext.append _ _
      len := by rw [h3len]; omega
      dead := fun i hi => by
        have hlt : i < h.length := (List.getElem?_eq_some_iff.1 hi).1
        have hg : h3[i]? = some (h3[i]'(by omega)) := List.getElem?_eq_getElem (by omega)
        cases hx : h3[i]'(by omega) with
        | none => rw [hg, hx]
        | some b =>
          rw [hx] at hg
          exfalso
          rcases puts_live _ hlen hl'' hg with ⟨j, b0, b1, e1, e2, e3, e4, e5⟩ | ⟨e1, e2⟩ | ⟨j, b1, e1, e2, e3, e4⟩
          · cases b0 with
            | none => simp [wrB] at e3
            | some b0 =>
              obtain ⟨i', b', d1, d2, _⟩ := hget j b0 e2
              rw [e1] at d1; cases d1
              unfold Live at d2; rw [hi] at d2; cases d2
          · unfold Live at e1; rw [hi] at e1; cases e1
          · omega
      unb := fun i h1 h2 hp => by rw [p2 i h2]; exact hp
      rle := by simp [ρ3] }
theorem vcall_at {f : FuncId} {args : List V} {h' : Heap} {Q : V → Heap → Prop} (hv : VCall P G f args h' Q) (μ : List Nat) {h : Heap} (hin : ∀ i ∈ μ, i < h.length) (hf : hfit (gmap μ h.length) h μ h') (hu : uniq μ h') {args2 : List V} (ha : args2 = rens (gmap μ h.length) args) {Q2 : V → Heap → Prop}
    (hq : ∀ v h'', Q v h'' → Q2 (ren (gmap μ h.length) v) (puts (gmap μ h.length) h' h'' μ h)) : VCall P G f args2 h Q2 := by
  subst ha
  intro ρ w rargs hs hr
  have hs' := sub_sim hs hf hu
  have hr' : concs (sub ρ μ) args = some rargs := by
    rw [concs_ren (ρ := ρ) (g := gmap μ h.length) (fun i => by rw [place_sub_g, hs.rlen])]; exact hr
  have mono : ∀ e w', RQ G (sub ρ μ) h' w Q e w' → RQ G ρ h w Q2 e w' := by
    rintro e w' ⟨ρ', v, h'', r, h1, h2, h3, h4, h5⟩
    obtain ⟨e1, e2, e3⟩ := frame_back hs hin hf hu h3 h4
    exact ⟨_, _, _, r, h1, by rw [← conc_ren (ρ' := ρ') e3]; exact h2, e1, e2, hq v h'' h5⟩
  rcases hv (sub ρ μ) w rargs hs' hr' with ⟨g1, g2⟩ | ⟨v, w', g1, g2⟩
  · exact .inl ⟨g1, g2.mono mono⟩
  · exact .inr ⟨v, w', g1, mono _ _ g2⟩
theorem vcall_pure {f : FuncId} {args : List V} {Q : V → Prop} (hv : VCall P G f args [] fun v h' => Q v ∧ h' = []) {h : Heap} {args2 : List V} (ha : args2 = rens (gmap [] h.length) args) : VCall P G f args2 h fun v h' => (∃ u, Q u ∧ v = ren (gmap [] h.length) u) ∧ h' = h := by
  refine vcall_at hv [] (by simp) trivial (by simp [uniq]) ha ?_
  rintro v h'' ⟨h1, rfl⟩
  exact ⟨⟨v, h1, rfl⟩, by simp [puts]⟩
end
section
theorem run_cond_t {f : FuncId} {n : Nat} {md : Md} {Q : V → Heap → Prop} {c : A} {x y : VC} {k : List TI} {st : St} (h : asB (ev st.tmps c) = some true) (hr : RunM P G f n md Q (.c x :: k, st)) : RunM P G f n md Q (.c (.cond c x y) :: k, st) :=
  run_step (p' := (.c x :: k, st)) (by simp only [stepV, h, if_true]) hr
theorem run_cond_f {f : FuncId} {n : Nat} {md : Md} {Q : V → Heap → Prop} {c : A} {x y : VC} {k : List TI} {st : St} (h : asB (ev st.tmps c) = some false) (hr : RunM P G f n md Q (.c y :: k, st)) : RunM P G f n md Q (.c (.cond c x y) :: k, st) :=
  run_step (p' := (.c y :: k, st)) (by simp only [stepV, h]; rfl) hr
theorem restore_mask {h : Heap} {ls as ms : List Nat} (hm : ms = ls ++ as) : restore h (maskH h ls as) ms = h := by
  subst hm
  unfold restore maskH
  apply List.ext_getElem?
  intro i
  rw [List.getElem?_mapIdx, List.getElem?_mapIdx]
  cases hi : h[i]? with
  | none => rfl
  | some b =>
    simp only [Option.map_some, Option.some.injEq, hi]
    by_cases h1 : i ∈ ls
    · rw [if_pos (by simp [h1])]; rfl
    · by_cases h2 : i ∈ as
      · rw [if_pos (by simp [h2])]; rfl
      · rw [if_neg (by simp [h1, h2]), if_neg (by simp [h2]), if_neg (by simp [h1])]
def nl (n : Nat) : Int := (n : Int)
def stepD (G : Nat → List V) (p : List DS × St) : Option (List DS × St) :=
  match p with
  | (⟨_, true, .op (some d) none o, _, _⟩ :: r, s) => if d < s.tmps.length then
      (if o.looks = true then match exo G s.tmps s.heap o with
        | some (v, _) => some (r, ⟨s.tmps.set d v, s.heap⟩)
        | none => none
      else match exA s.tmps o with
        | some (mk, cs) => some (r, ⟨s.tmps.set d (mk s.heap.length), s.heap ++ [some ⟨.rw, cs⟩]⟩)
        | none => none) else none
  | (⟨_, true, .op (some d) (some g) o, _, _⟩ :: r, s) => if d < s.tmps.length ∧ o.looks = true then
      (match wantV s.tmps (some g) with
        | some true => match exo G s.tmps s.heap o with
          | some (v, _) => some (r, ⟨s.tmps.set d v, s.heap⟩)
          | none => none
        | some false => some (r, ⟨s.tmps.set d (.tup []), s.heap⟩)
        | none => none) else none
  | (⟨_, false, .op d g o, ls, as⟩ :: r, s) => match wantV s.tmps g with
      | some true => if ls.all (fun a => decide (a < 1000000)) = true then (match exo G s.tmps (maskH s.heap (idsAt s.tmps ls) (idsAt s.tmps as)) o with
        | some (v, h') => some (r, ⟨setd s.tmps d v, restore s.heap h' (idsAt s.tmps ls ++ idsAt s.tmps as)⟩)
        | none => none) else none
      | some false => some (r, ⟨setd s.tmps d (.tup []), s.heap⟩)
      | none => none
  | (⟨_, false, .call d (some g) _ _, _, _⟩ :: r, s) => match wantV s.tmps (some g) with
      | some false => some (r, ⟨setd s.tmps d (.tup []), s.heap⟩)
      | _ => none
  | _ => none
theorem drun_skip {f : FuncId} {n : Nat} {md : Md} {Q : V → Heap → Prop} {k : List TI} {x : DS} {rest : List DS} {st : St} (hfl : x.fl = false) (hw : wantV st.tmps x.vi.grd = some false) (h : DRunM P G f n md Q k rest ⟨setd st.tmps x.vi.dst (.tup []), st.heap⟩) : DRunM P G f n md Q k (x :: rest) st := by
  refine drun_eff hfl (fun ops => eff_skip hw) (by
    rintro v h' ⟨rfl, rfl⟩
    rw [restore_mask rfl]
    exact fun _ _ _ => rfl) ?_
  rintro v h' ⟨rfl, rfl⟩
  rw [restore_mask rfl]
  exact h
theorem stepD_sound {f : FuncId} {n : Nat} {md : Md} {Q : V → Heap → Prop} {k : List TI} {p p' : List DS × St} (h : stepD G p = some p') (hr : DRunM P G f n md Q k p'.1 p'.2) : DRunM P G f n md Q k p.1 p.2 := by
  unfold stepD at h
  split at h
  · rename_i i d o ls as r s
    split at h <;> try (cases h; done)
    rename_i hd
    split at h
    · rename_i hl
      split at h <;> try (cases h; done)
      rename_i v h' he
      have := looks_heap hl he
      subst this
      simp only [Option.some.injEq] at h
      subst h
      exact drun_look rfl rfl hd hl (.inl ⟨rfl, he⟩) hr
    · split at h <;> try (cases h; done)
      rename_i mk cs he
      simp only [Option.some.injEq] at h
      subst h
      exact drun_make rfl rfl hd he hr
  · rename_i i d g o ls as r s
    split at h <;> try (cases h; done)
    rename_i hd
    split at h <;> try (cases h; done)
    · rename_i hw
      split at h <;> try (cases h; done)
      rename_i v h' he
      have := looks_heap hd.2 he
      subst this
      simp only [Option.some.injEq] at h
      subst h
      exact drun_look rfl rfl hd.1 hd.2 (.inl ⟨hw, he⟩) hr
    · rename_i hw
      simp only [Option.some.injEq] at h
      subst h
      exact drun_look rfl rfl hd.1 hd.2 (.inr ⟨hw, rfl⟩) hr
  · rename_i i d g o ls as r s
    split at h <;> try (cases h; done)
    · rename_i hw
      split at h <;> try (cases h; done)
      rename_i hall
      split at h <;> try (cases h; done)
      rename_i v h' he
      simp only [Option.some.injEq] at h
      subst h
      refine drun_eff rfl (fun ops => eff_op rfl hw he) (fun _ _ _ => KeepOk.all hall) ?_
      rintro v' h'' ⟨rfl, rfl⟩
      exact hr
    · rename_i hw
      simp only [Option.some.injEq] at h
      subst h
      exact drun_skip rfl hw hr
  · rename_i i d g cal xs ls as r s
    split at h <;> try (cases h; done)
    rename_i hw
    simp only [Option.some.injEq] at h
    subst h
    exact drun_skip rfl hw hr
  · cases h
def driveD (G : Nat → List V) : Nat → List DS × St → List DS × St
  | 0, p => p
  | n + 1, p => match stepD G p with
    | some p' => driveD G n p'
    | none => p
theorem drun_drive {f : FuncId} {n : Nat} {md : Md} {Q : V → Heap → Prop} {k : List TI} (m : Nat) : ∀ {p : List DS × St}, DRunM P G f n md Q k (driveD G m p).1 (driveD G m p).2 → DRunM P G f n md Q k p.1 p.2 := by
  induction m with
  | zero => intro p h; exact h
  | succ m ih =>
    intro p h
    simp only [driveD] at h
    split at h
    · rename_i p' hp
      exact stepD_sound hp (ih h)
    · exact h
theorem drun_call {f : FuncId} {n : Nat} {md : Md} {Q : V → Heap → Prop} {k : List TI} {i : Nat} {d : Option Nat} {g : Option (Nat × Bool)} {cal : Cal} {xs : List A} {ls as : List Nat} {rest : List DS} {st : St} {f' : FuncId} {args : List V} (hls : ls.all (fun a => decide (a < 1000000)) = true) (hg : wantV st.tmps g = some true) (hcal : calV P st.tmps cal xs = some (f', args))
    (h : VCall P G f' args (maskH st.heap (idsAt st.tmps ls) (idsAt st.tmps as)) fun v h' => DRunM P G f n md Q k rest ⟨setd st.tmps d v, restore st.heap h' (idsAt st.tmps ls ++ idsAt st.tmps as)⟩) :
    DRunM P G f n md Q k (⟨i, false, .call d g cal xs, ls, as⟩ :: rest) st :=
  drun_eff rfl (fun _ => eff_call rfl hg hcal h) (fun _ _ _ => KeepOk.all hls) fun _ _ h => h
theorem drun_call' {f : FuncId} {n : Nat} {md : Md} {Q : V → Heap → Prop} {k : List TI} {i : Nat} {d : Option Nat} {g : Option (Nat × Bool)} {cal : Cal} {xs : List A} {ls as : List Nat} {rest : List DS} {st : St}
    (h : match calV P st.tmps cal xs with
      | some (f', args) => VCall P G f' args (maskH st.heap (idsAt st.tmps ls) (idsAt st.tmps as)) fun v h' => DRunM P G f n md Q k rest ⟨setd st.tmps d v, restore st.heap h' (idsAt st.tmps ls ++ idsAt st.tmps as)⟩
      | none => False) (hg : wantV st.tmps g = some true := by rfl) (hls : ls.all (fun a => decide (a < 1000000)) = true := by rfl) :
    DRunM P G f n md Q k (⟨i, false, .call d g cal xs, ls, as⟩ :: rest) st := by
  split at h
  · rename_i f' args hc
    exact drun_call hls hg hc h
  · exact h.elim
theorem run_call' {f : FuncId} {n : Nat} {md : Md} {Q : V → Heap → Prop} {d : Option Nat} {g : Option (Nat × Bool)} {cal : Cal} {xs : List A} {l : List VI} {k : List TI} {st : St} (hg : wantV st.tmps g = some true)
    (h : match calV P st.tmps cal xs with
      | some (f', args) => VCall P G f' args st.heap fun v h' => RunM P G f n md Q (.r l :: k, ⟨setd st.tmps d v, h'⟩)
      | none => False) :
    RunM P G f n md Q (.r (.call d g cal xs :: l) :: k, st) := by
  split at h
  · rename_i f' args hc
    exact calV_call hg hc h
  · exact h.elim
theorem run_ret' {f : FuncId} {n : Nat} {Q : V → Heap → Prop} {fn : Func} (hf : P.funcs[f]? = some fn) {ys : List RV} (hc : cRVs P fn.results.toList = some ys) {k : List TI} {st : St} (h : match rvs G st.tmps st.heap ys with
      | some l => Q (one l) st.heap
      | none => False) : Run P G f n Q (.c .ret :: k, st) := by
  split at h
  · rename_i l hl
    exact run_ret hf hc hl h
  · exact h.elim
theorem run_end' {f : FuncId} {n : Nat} {Q : V → Heap → Prop} {fn : Func} (hf : P.funcs[f]? = some fn) {ys : List RV} (hc : cRVs P fn.results.toList = some ys) {st : St} (h : match rvs G st.tmps st.heap ys with
      | some l => Q (one l) st.heap
      | none => False) : Run P G f n Q ([], st) := by
  split at h
  · rename_i l hl
    exact run_end hf hc hl h
  · exact h.elim
theorem vcall_body {f : FuncId} {fn : Func} (hf : P.funcs[f]? = some fn) (hnm : (fn.name == "runtime.NumGoroutine") = false) {vc : VC} (hvc : fn.body.bind (cCode P) = some vc) {nt : Nat} (hnt : fn.ntmps = nt)
    {args : List V} {h : Heap} {Q : V → Heap → Prop} (hrun : Run P G f h.length Q ([.c vc], ⟨args ++ List.replicate (nt - args.length) .unk, h⟩)) : VCall P G f args h Q := by
  obtain ⟨c, h1, h2⟩ := Option.bind_eq_some_iff.1 hvc
  exact vcall_of hf hnm h1 h2 hnt hrun
theorem vcall_value {f : FuncId} {args : List V} {v : V} (rargs : List Value) (r : Value) (ha : concs [] args = some rargs) (hr : conc [] v = some r) (hrun : ∀ w, (callFunc f rargs.toArray).run P w = .ok (.value r) w) : VCall P G f args [] fun u h' => u = v ∧ h' = [] := by
  intro ρ w ra hs hra
  have hext : Ext [] ρ := fun i p hp => by simp [place] at hp
  have := concs_ext hext _ _ ha
  rw [this] at hra
  simp only [Option.some.injEq] at hra
  subst hra
  exact .inr ⟨r, w, hrun w, ρ, v, [], r, rfl, conc_ext hext _ _ hr, hs, Keeps.refl _ _ _, rfl, rfl⟩
theorem vcall_plain {f : FuncId} {args : List V} {Q : V → Prop} (hv : VCall P G f args [] fun v h' => Q v ∧ h' = []) (ha : ∀ g, rens g args = args) (hr : ∀ v g, Q v → ren g v = v) {h : Heap} {R : V → Heap → Prop} (hq : ∀ v, Q v → R v h) : VCall P G f args h R := by
  refine (vcall_pure hv (h := h) (ha _).symm).mono ?_
  rintro v h' ⟨⟨u, h1, rfl⟩, rfl⟩
  rw [hr u _ h1]
  exact hq u h1
theorem VCall.imp {f : FuncId} {args : List V} {h : Heap} {Q Q' : V → Heap → Prop} (hc : VCall P G f args h Q) (hq : ∀ v h, Q v h → Q' v h) : VCall P G f args h Q' := hc.mono hq
end
end Go.Vs
namespace Go.Vs
section
theorem wrap_i64 {n : Int} (h0 : -9223372036854775808 ≤ n) (h1 : n ≤ 9223372036854775807) : IntKind.i64.wrap n = n := by
  have : IntKind.i64.wrap n = (n + 9223372036854775808) % 18446744073709551616 - 9223372036854775808 := IntKind.wrap_i64 n
  rw [this]; omega
theorem wrap_u64 (n : Int) : IntKind.u64.wrap n = n % 18446744073709551616 := IntKind.wrap_u64 n
def w64 (n : Nat) : Nat := n % 18446744073709551616
def s64 (a b : Nat) : Nat := (a + (18446744073709551616 - b % 18446744073709551616)) % 18446744073709551616
def a64 (a b : Nat) : Nat := (a % 18446744073709551616) &&& (b % 18446744073709551616)
def o64 (a b : Nat) : Nat := (a % 18446744073709551616) ||| (b % 18446744073709551616)
def x64 (a b : Nat) : Nat := (a % 18446744073709551616) ^^^ (b % 18446744073709551616)
def n64 (a b : Nat) : Nat := (a % 18446744073709551616) &&& (18446744073709551615 - b % 18446744073709551616)
def r64 (a k : Nat) : Nat := a / 2 ^ min k 64
def l64 (a k : Nat) : Nat := w64 (a * 2 ^ min k 64)
theorem add_u64 (a b : Nat) : IntKind.u64.wrap ((a : Int) + (b : Int)) = (w64 (a + b) : Nat) := by rw [wrap_u64]; unfold w64; omega
theorem mul_u64 (a b : Nat) : IntKind.u64.wrap ((a : Int) * (b : Int)) = (w64 (a * b) : Nat) := by rw [wrap_u64, ← Int.natCast_mul]; unfold w64; omega
theorem sub_u64 (a b : Nat) : IntKind.u64.wrap ((a : Int) - (b : Int)) = (s64 a b : Nat) := by rw [wrap_u64]; unfold s64; omega
theorem neg_u64 (b : Nat) : IntKind.u64.wrap (0 - (b : Int)) = (s64 0 b : Nat) := by rw [wrap_u64]; unfold s64; omega
theorem mod_u64 (a : Nat) : (BitVec.ofInt 64 (a : Int)).toNat = a % 18446744073709551616 := by rw [BitVec.ofInt_natCast, BitVec.toNat_ofNat]
theorem and_u64 (a b : Nat) : bits .and .u64 (a : Int) (b : Int) = (a64 a b : Nat) := by
  have hx : (a % 18446744073709551616) &&& (b % 18446744073709551616) < 2 ^ 64 := Nat.and_lt_two_pow _ (by omega)
  show IntKind.u64.wrap ((BitVec.ofInt 64 (a : Int) &&& BitVec.ofInt 64 (b : Int)).toNat : Int) = _
  rw [BitVec.toNat_and, mod_u64, mod_u64, wrap_u64]
  unfold a64; omega
theorem or_u64 (a b : Nat) : bits .or .u64 (a : Int) (b : Int) = (o64 a b : Nat) := by
  have hx : (a % 18446744073709551616) ||| (b % 18446744073709551616) < 2 ^ 64 := Nat.or_lt_two_pow (by omega) (by omega)
  show IntKind.u64.wrap ((BitVec.ofInt 64 (a : Int) ||| BitVec.ofInt 64 (b : Int)).toNat : Int) = _
  rw [BitVec.toNat_or, mod_u64, mod_u64, wrap_u64]
  unfold o64; omega
theorem xor_u64 (a b : Nat) : bits .xor .u64 (a : Int) (b : Int) = (x64 a b : Nat) := by
  have hx : (a % 18446744073709551616) ^^^ (b % 18446744073709551616) < 2 ^ 64 := Nat.xor_lt_two_pow (by omega) (by omega)
  show IntKind.u64.wrap ((BitVec.ofInt 64 (a : Int) ^^^ BitVec.ofInt 64 (b : Int)).toNat : Int) = _
  rw [BitVec.toNat_xor, mod_u64, mod_u64, wrap_u64]
  unfold x64; omega
theorem andNot_u64 (a b : Nat) : bits .andNot .u64 (a : Int) (b : Int) = (n64 a b : Nat) := by
  have hx : (a % 18446744073709551616) &&& (18446744073709551615 - b % 18446744073709551616) < 2 ^ 64 := Nat.and_lt_two_pow _ (by omega)
  show IntKind.u64.wrap ((BitVec.ofInt 64 (a : Int) &&& ~~~ BitVec.ofInt 64 (b : Int)).toNat : Int) = _
  rw [BitVec.toNat_and, BitVec.toNat_not, mod_u64, mod_u64, wrap_u64, show (2 ^ 64 - 1 - b % 18446744073709551616) = 18446744073709551615 - b % 18446744073709551616 from rfl]
  unfold n64; omega
theorem shr_u64 (a k : Nat) : (a : Int).fdiv (2 ^ min k 64) = (r64 a k : Nat) := by
  unfold r64
  rw [Int.fdiv_eq_ediv_of_nonneg _ (by exact Int.pow_nonneg (by decide))]
  rw [Int.natCast_ediv]
  rw [Int.natCast_pow]; rfl
theorem shl_u64 (a k : Nat) : IntKind.u64.wrap ((a : Int) * 2 ^ min k 64) = (l64 a k : Nat) := by
  have : (2 : Int) ^ min k 64 = ((2 ^ min k 64 : Nat) : Int) := by rw [Int.natCast_pow]; rfl
  rw [this, mul_u64]; rfl
theorem shr_base (a b : Nat) (k : IntKind) : binI .shr .u64 (a : Int) k (b : Int) = some (.int .u64 ((r64 a b : Nat) : Int)) := by
  simp only [binI]
  rw [if_pos (Int.natCast_nonneg b)]
  exact congrArg (fun x => some (V.int .u64 x)) (shr_u64 a b)
theorem shl_base (a b : Nat) (k : IntKind) : binI .shl .u64 (a : Int) k (b : Int) = some (.int .u64 ((l64 a b : Nat) : Int)) := by
  simp only [binI]
  rw [if_pos (Int.natCast_nonneg b)]
  exact congrArg (fun x => some (V.int .u64 x)) (shl_u64 a b)
theorem b_add_cc (a b : Nat) : binI .add .u64 (a : Int) .u64 (b : Int) = some (.int .u64 ((w64 (a + b) : Nat) : Int)) := congrArg (fun x => some (V.int .u64 x)) (add_u64 a b)
theorem b_add_cl (a b : Nat) : binI .add .u64 (a : Int) .u64 (nl b) = some (.int .u64 ((w64 (a + b) : Nat) : Int)) := congrArg (fun x => some (V.int .u64 x)) (add_u64 a b)
theorem b_add_lc (a b : Nat) : binI .add .u64 (nl a) .u64 (b : Int) = some (.int .u64 ((w64 (a + b) : Nat) : Int)) := congrArg (fun x => some (V.int .u64 x)) (add_u64 a b)
theorem b_mul_cc (a b : Nat) : binI .mul .u64 (a : Int) .u64 (b : Int) = some (.int .u64 ((w64 (a * b) : Nat) : Int)) := congrArg (fun x => some (V.int .u64 x)) (mul_u64 a b)
theorem b_mul_cl (a b : Nat) : binI .mul .u64 (a : Int) .u64 (nl b) = some (.int .u64 ((w64 (a * b) : Nat) : Int)) := congrArg (fun x => some (V.int .u64 x)) (mul_u64 a b)
theorem b_mul_lc (a b : Nat) : binI .mul .u64 (nl a) .u64 (b : Int) = some (.int .u64 ((w64 (a * b) : Nat) : Int)) := congrArg (fun x => some (V.int .u64 x)) (mul_u64 a b)
theorem b_sub_cc (a b : Nat) : binI .sub .u64 (a : Int) .u64 (b : Int) = some (.int .u64 ((s64 a b : Nat) : Int)) := congrArg (fun x => some (V.int .u64 x)) (sub_u64 a b)
theorem b_sub_cl (a b : Nat) : binI .sub .u64 (a : Int) .u64 (nl b) = some (.int .u64 ((s64 a b : Nat) : Int)) := congrArg (fun x => some (V.int .u64 x)) (sub_u64 a b)
theorem b_sub_lc (a b : Nat) : binI .sub .u64 (nl a) .u64 (b : Int) = some (.int .u64 ((s64 a b : Nat) : Int)) := congrArg (fun x => some (V.int .u64 x)) (sub_u64 a b)
theorem b_and_cc (a b : Nat) : binI .and .u64 (a : Int) .u64 (b : Int) = some (.int .u64 ((a64 a b : Nat) : Int)) := congrArg (fun x => some (V.int .u64 x)) (and_u64 a b)
theorem b_and_cl (a b : Nat) : binI .and .u64 (a : Int) .u64 (nl b) = some (.int .u64 ((a64 a b : Nat) : Int)) := congrArg (fun x => some (V.int .u64 x)) (and_u64 a b)
theorem b_and_lc (a b : Nat) : binI .and .u64 (nl a) .u64 (b : Int) = some (.int .u64 ((a64 a b : Nat) : Int)) := congrArg (fun x => some (V.int .u64 x)) (and_u64 a b)
theorem b_or_cc (a b : Nat) : binI .or .u64 (a : Int) .u64 (b : Int) = some (.int .u64 ((o64 a b : Nat) : Int)) := congrArg (fun x => some (V.int .u64 x)) (or_u64 a b)
theorem b_or_cl (a b : Nat) : binI .or .u64 (a : Int) .u64 (nl b) = some (.int .u64 ((o64 a b : Nat) : Int)) := congrArg (fun x => some (V.int .u64 x)) (or_u64 a b)
theorem b_or_lc (a b : Nat) : binI .or .u64 (nl a) .u64 (b : Int) = some (.int .u64 ((o64 a b : Nat) : Int)) := congrArg (fun x => some (V.int .u64 x)) (or_u64 a b)
theorem b_xor_cc (a b : Nat) : binI .xor .u64 (a : Int) .u64 (b : Int) = some (.int .u64 ((x64 a b : Nat) : Int)) := congrArg (fun x => some (V.int .u64 x)) (xor_u64 a b)
theorem b_xor_cl (a b : Nat) : binI .xor .u64 (a : Int) .u64 (nl b) = some (.int .u64 ((x64 a b : Nat) : Int)) := congrArg (fun x => some (V.int .u64 x)) (xor_u64 a b)
theorem b_xor_lc (a b : Nat) : binI .xor .u64 (nl a) .u64 (b : Int) = some (.int .u64 ((x64 a b : Nat) : Int)) := congrArg (fun x => some (V.int .u64 x)) (xor_u64 a b)
theorem b_andNot_cc (a b : Nat) : binI .andNot .u64 (a : Int) .u64 (b : Int) = some (.int .u64 ((n64 a b : Nat) : Int)) := congrArg (fun x => some (V.int .u64 x)) (andNot_u64 a b)
theorem b_andNot_cl (a b : Nat) : binI .andNot .u64 (a : Int) .u64 (nl b) = some (.int .u64 ((n64 a b : Nat) : Int)) := congrArg (fun x => some (V.int .u64 x)) (andNot_u64 a b)
theorem b_andNot_lc (a b : Nat) : binI .andNot .u64 (nl a) .u64 (b : Int) = some (.int .u64 ((n64 a b : Nat) : Int)) := congrArg (fun x => some (V.int .u64 x)) (andNot_u64 a b)
theorem b_shr_cc (a b : Nat) (k : IntKind) : binI .shr .u64 (a : Int) k (b : Int) = some (.int .u64 ((r64 a b : Nat) : Int)) := shr_base a b k
theorem b_shr_cl (a b : Nat) (k : IntKind) : binI .shr .u64 (a : Int) k (nl b) = some (.int .u64 ((r64 a b : Nat) : Int)) := shr_base a b k
theorem b_shr_lc (a b : Nat) (k : IntKind) : binI .shr .u64 (nl a) k (b : Int) = some (.int .u64 ((r64 a b : Nat) : Int)) := shr_base a b k
theorem b_shl_cc (a b : Nat) (k : IntKind) : binI .shl .u64 (a : Int) k (b : Int) = some (.int .u64 ((l64 a b : Nat) : Int)) := shl_base a b k
theorem b_shl_cl (a b : Nat) (k : IntKind) : binI .shl .u64 (a : Int) k (nl b) = some (.int .u64 ((l64 a b : Nat) : Int)) := shl_base a b k
theorem b_shl_lc (a b : Nat) (k : IntKind) : binI .shl .u64 (nl a) k (b : Int) = some (.int .u64 ((l64 a b : Nat) : Int)) := shl_base a b k
theorem b_lss (k : IntKind) (a b : Int) : binI .lss k a k b = some (.bool (decide (a < b))) := if_pos rfl
theorem b_leq (k : IntKind) (a b : Int) : binI .leq k a k b = some (.bool (decide (a ≤ b))) := if_pos rfl
theorem b_gtr (k : IntKind) (a b : Int) : binI .gtr k a k b = some (.bool (decide (a > b))) := if_pos rfl
theorem b_geq (k : IntKind) (a b : Int) : binI .geq k a k b = some (.bool (decide (a ≥ b))) := if_pos rfl
theorem b_add_i (a b : Int) : binI .add .i64 a .i64 b = some (.int .i64 (IntKind.i64.wrap (a + b))) := by simp only [binI, if_true]
theorem b_sub_i (a b : Int) : binI .sub .i64 a .i64 b = some (.int .i64 (IntKind.i64.wrap (a - b))) := by simp only [binI, if_true]
theorem b_mul_i (a b : Int) : binI .mul .i64 a .i64 b = some (.int .i64 (IntKind.i64.wrap (a * b))) := by simp only [binI, if_true]
theorem lt_ll (a b : Nat) : (nl a < nl b) = (a < b) := propext Int.ofNat_lt
theorem beq_cc (a b : Nat) : ((a : Int) == (b : Int)) = decide (a = b) := by show ((a : Int) == (b : Int)) = _; rw [Bool.eq_iff_iff]; simp; omega
theorem beq_cl (a b : Nat) : ((a : Int) == nl b) = decide (a = b) := by show ((a : Int) == (b : Int)) = _; rw [Bool.eq_iff_iff]; simp; omega
theorem beq_lc (a b : Nat) : (nl a == (b : Int)) = decide (a = b) := by show ((a : Int) == (b : Int)) = _; rw [Bool.eq_iff_iff]; simp; omega
theorem beq_ll (a b : Nat) : (nl a == nl b) = decide (a = b) := by show ((a : Int) == (b : Int)) = _; rw [Bool.eq_iff_iff]; simp; omega
theorem b_quo_i (a b : Int) (h : b ≠ 0) : binI .quo .i64 a .i64 b = some (.int .i64 (IntKind.i64.wrap (a.tdiv b))) := if_pos ⟨rfl, h⟩
theorem b_rem_i (a b : Int) (h : b ≠ 0) : binI .rem .i64 a .i64 b = some (.int .i64 (a.tmod b)) := if_pos ⟨rfl, h⟩
end
section
theorem cells_agg (l : List V) : cellsOf (.agg l) = l := rfl
theorem cells_int (k : IntKind) (n : Int) : cellsOf (.int k n) = [.int k n] := rfl
theorem cells_bool (b : Bool) : cellsOf (.bool b) = [.bool b] := rfl
theorem cells_str (b : ByteArray) : cellsOf (.str b) = [.str b] := rfl
theorem cells_nilp : cellsOf .nilp = [.nilp] := rfl
theorem cells_ptr (i o : Nat) : cellsOf (.ptr i o) = [.ptr i o] := rfl
theorem cells_glob (i o : Nat) : cellsOf (.glob i o) = [.glob i o] := rfl
theorem cells_nils : cellsOf .nils = [.nils] := rfl
theorem cells_sl (i o n : Nat) (c : Cap) : cellsOf (.sl i o n c) = [.sl i o n c] := rfl
theorem cells_nilf : cellsOf .nilf = [.nilf] := rfl
theorem cells_fn (f : Fn) (a c : List V) : cellsOf (.fn f a c) = [.fn f a c] := rfl
theorem cells_nili : cellsOf .nili = [.nili] := rfl
theorem cells_ifc (t : TypeId) (v : V) : cellsOf (.ifc t v) = [.ifc t v] := rfl
theorem known_agg (l : List V) : (V.agg l).known = true := rfl
theorem known_tup (l : List V) : (V.tup l).known = true := rfl
theorem known_int (k : IntKind) (n : Int) : (V.int k n).known = true := rfl
theorem known_bool (b : Bool) : (V.bool b).known = true := rfl
theorem known_str (b : ByteArray) : (V.str b).known = true := rfl
theorem known_nilp : V.nilp.known = true := rfl
theorem known_ptr (i o : Nat) : (V.ptr i o).known = true := rfl
theorem known_glob (i o : Nat) : (V.glob i o).known = true := rfl
theorem known_nils : V.nils.known = true := rfl
theorem known_sl (i o n : Nat) (c : Cap) : (V.sl i o n c).known = true := rfl
theorem known_nilf : V.nilf.known = true := rfl
theorem known_fn (f : Fn) (a c : List V) : (V.fn f a c).known = true := rfl
theorem known_nili : V.nili.known = true := rfl
theorem known_ifc (t : TypeId) (v : V) : (V.ifc t v).known = true := rfl
theorem known_unk : V.unk.known = false := rfl
theorem one_agg (l : List V) : (V.agg l).one = false := rfl
theorem one_tup (l : List V) : (V.tup l).one = false := rfl
theorem one_int (k : IntKind) (n : Int) : (V.int k n).one = true := rfl
theorem one_bool (b : Bool) : (V.bool b).one = true := rfl
theorem one_str (b : ByteArray) : (V.str b).one = true := rfl
theorem one_nilp : V.nilp.one = true := rfl
theorem one_ptr (i o : Nat) : (V.ptr i o).one = true := rfl
theorem one_glob (i o : Nat) : (V.glob i o).one = true := rfl
theorem one_nils : V.nils.one = true := rfl
theorem one_sl (i o n : Nat) (c : Cap) : (V.sl i o n c).one = true := rfl
theorem one_nilf : V.nilf.one = true := rfl
theorem one_fn (f : Fn) (a c : List V) : (V.fn f a c).one = true := rfl
theorem one_nili : V.nili.one = true := rfl
theorem one_ifc (t : TypeId) (v : V) : (V.ifc t v).one = true := rfl
theorem asK_int (k : IntKind) (n : Int) : asK (.int k n) = some k := rfl
theorem asN_int (k : IntKind) (n : Int) : asN (.int k n) = some n := rfl
theorem asB_bool (b : Bool) : asB (.bool b) = some b := rfl
theorem asS_str (b : ByteArray) : asS (.str b) = some b := rfl
theorem asG_agg (l : List V) : asG (.agg l) = some l := rfl
theorem asT_tup (l : List V) : asT (.tup l) = some l := rfl
theorem lenO_nils : lenO .nils = some 0 := rfl
theorem lenO_sl (i o n : Nat) (c : Cap) : lenO (.sl i o n c) = some n := rfl
theorem rens_append (g : Nat → Nat) : ∀ a b : List V, rens g (a ++ b) = rens g a ++ rens g b
  | [], b => rfl
  | v :: a, b => by simp only [List.cons_append, rens, rens_append g a b]
def stopV : List TI → Bool
  | .c (.cond _ _ (.exit _)) :: _ => false
  | .c (.cond _ _ _) :: _ => true
  | .c (.exit _) :: _ => true
  | _ => false
def driveS (G : Nat → List V) : Nat → List TI × St → List TI × St
  | 0, p => p
  | n + 1, p => match stopV p.1 with
    | true => p
    | false => match stepV G p with
      | some p' => driveS G n p'
      | none => p
variable {P : Program} {G : Nat → List V}
theorem run_driveS {f : FuncId} {n : Nat} {md : Md} {Q : V → Heap → Prop} (m : Nat) : ∀ {p : List TI × St}, RunM P G f n md Q (driveS G m p) → RunM P G f n md Q p := by
  induction m with
  | zero => intro p h; exact h
  | succ m ih =>
    intro p h
    simp only [driveS] at h
    split at h
    · exact h
    · split at h
      · rename_i p' hp
        exact run_step hp (ih h)
      · exact h
theorem run_exit {f : FuncId} {n : Nat} {md : Md} {Q : V → Heap → Prop} {id : Nat} {k k' : List TI} {st : St} (hk : exitV id k = some k') (h : RunM P G f n md Q (k', st)) : RunM P G f n md Q (.c (.exit id) :: k, st) :=
  run_step (p' := (k', st)) (by simp only [stepV, hk]) h
theorem run_loop_eq {f : FuncId} {n : Nat} {md : Md} {Q : V → Heap → Prop} {c c' : VC} {k : List TI} {st : St} (e : c = c') (h : RunM P G f n md Q (.c c' :: .l c :: k, st)) : RunM P G f n md Q (.l c :: k, st) := run_loop (by subst e; exact h)
def pickB (b : Bool) (x y : V) : V := if b = true then x else y
def selN (b : Bool) (x y : Nat) : Nat := if b = true then x else y
theorem pick_ll (b : Bool) (k : IntKind) (m n : Nat) : pickB b (.int k (nl m)) (.int k (nl n)) = .int k ((selN b m n : Nat) : Int) := by cases b <;> rfl
theorem pick_lc (b : Bool) (k : IntKind) (m n : Nat) : pickB b (.int k (nl m)) (.int k ((n : Nat) : Int)) = .int k ((selN b m n : Nat) : Int) := by cases b <;> rfl
theorem pick_bb (b x y : Bool) : pickB b (.bool x) (.bool y) = .bool (if b = true then x else y) := by cases b <;> rfl
theorem b_and_ll (a b : Nat) : binI .and .u64 (nl a) .u64 (nl b) = some (.int .u64 ((a64 a b : Nat) : Int)) := b_and_cc a b
theorem b_shr_ll (a b : Nat) (k : IntKind) : binI .shr .u64 (nl a) k (nl b) = some (.int .u64 ((r64 a b : Nat) : Int)) := shr_base a b k
theorem b_mul_ll (a b : Nat) : binI .mul .u64 (nl a) .u64 (nl b) = some (.int .u64 ((w64 (a * b) : Nat) : Int)) := b_mul_cc a b
theorem b_add_ll (a b : Nat) : binI .add .u64 (nl a) .u64 (nl b) = some (.int .u64 ((w64 (a + b) : Nat) : Int)) := b_add_cc a b
theorem b_or_ll (a b : Nat) : binI .or .u64 (nl a) .u64 (nl b) = some (.int .u64 ((o64 a b : Nat) : Int)) := b_or_cc a b
theorem b_shl_ll (a b : Nat) (k : IntKind) : binI .shl .u64 (nl a) k (nl b) = some (.int .u64 ((l64 a b : Nat) : Int)) := shl_base a b k
end
end Go.Vs
namespace Go.Vs
variable {P : Program} {G : Nat → List V}
section
def YCall (P : Program) (G : Nat → List V) (i : Nat) (args : List V) (h : Heap) (Q : V → Heap → Prop) : Prop :=
  ∀ ρ w rargs p, Sim G ρ h w → place ρ i = some p → concs ρ args = some rargs →
    ∃ f tmps assign body, (Instr.yield p.block rargs.toArray).run P w = .ok (.round p.block f tmps assign body) w ∧ RoundIn (fw none) 0 P p.block f tmps assign body w (RQ G ρ h w Q)
theorem YCall.mono {i : Nat} {args : List V} {h : Heap} {Q Q' : V → Heap → Prop} (hc : YCall P G i args h Q) (hq : ∀ v h, Q v h → Q' v h) : YCall P G i args h Q' := by
  intro ρ w rargs p hs hp ha
  obtain ⟨f, t, x, y, h1, h2⟩ := hc ρ w rargs p hs hp ha
  exact ⟨f, t, x, y, h1, h2.mono fun e w' hr => hr.mono hq⟩
section
variable {f : FuncId} {n i : Nat} {Q : V → Heap → Prop} {st : St} {r : Loop} {tm : List V}
end
end
section
def DNop (P : Program) (g : FuncId) : Prop := ∀ (args : Array Value) (w : World), (callFunc g args).run P w = .ok (.enter g args) w ∧
  CallsD P g args .returning w fun e u' w' => (∃ v, e = .returned v) ∧ u' = .returning ∧ w' = w
theorem shut_app : ∀ (L M : List Nat) (w : World), shut w (L ++ M) = shut (shut w L) M
  | [], _, _ => rfl
  | D :: L, M, w => shut_app L M _
theorem Fin.leaves_df {f : FuncId} {fn : Func} {R : Ending → World → Prop} {a : Act} {w : World} (hf : P.funcs[f]? = some fn) {L M : List Nat} (hL : (L ++ M).Nodup) {g : FuncId} {ar cap : Array Value} (hg : DNop P g) (hd : a.defers = L.map (fun D => { target := .collected D, args := #[] }) ++ { target := .fn (.func g) cap, args := ar } :: M.map (fun D => { target := .collected D, args := #[] })) (hk : ∀ D ∈ L ++ M, w.heap[D]? = some (.deferred (some [])))
    {v : Value} (hv : (results fn a.tmps).run P (shut w (L ++ M)) = .ok v (shut w (L ++ M))) (hR : R (.returned v) (shut w (L ++ M))) (b : Frame) (cs : List Frame) (todo : List Item) (hb : b.fn = f) (hkd : b.kind = .normal) :
    Goal P f none R cs (lone { b.atR a todo with mode := .returning } cs w) := by
  obtain ⟨n1, n2, n3⟩ := List.nodup_append.1 hL
  have h := steps_markst (P := P) ({ target := .fn (.func g) cap, args := ar } :: M.map (fun D => { target := .collected D, args := #[] })) L w { b.atR a todo with mode := .returning } cs n1 rfl hd fun D hD => hk D (List.mem_append_left _ hD)
  obtain ⟨h1, h2⟩ := hg (ar ++ cap) (shut w L)
  have h3 := step_defer (P := P) (fr := { { b.atR a todo with mode := .returning } with defers := { target := .fn (.func g) cap, args := ar } :: M.map (fun D => { target := .collected D, args := #[] }) }) (cs := cs) (w := shut w L) (d := { target := .fn (.func g) cap, args := ar }) (ds := M.map (fun D => { target := .collected D, args := #[] })) (fv := .func g) (cap := cap) (f := g) (args := ar ++ cap) (by simp) rfl rfl h1
  obtain ⟨e, u', w', frX, ⟨⟨x, rfl⟩, rfl, rfl⟩, hc, hkX, hgo⟩ := h2 { b.atR a todo with mode := .returning, defers := M.map (fun D => { target := .collected D, args := #[] }) } cs rfl
  have h4 := step_going_returned (P := P) (fr := frX) (c := { b.atR a todo with mode := .returning, defers := M.map (fun D => { target := .collected D, args := #[] }) }) (cs := cs) (w := shut w L) hkX hgo
  have h5 := steps_marks (P := P) M (shut w L) { b.atR a todo with mode := .returning, defers := M.map (fun D => { target := .collected D, args := #[] }) } cs n2 rfl rfl fun D hD => by
    rw [shut_other L w D fun hm => n3 D hm D hD rfl]
    exact hk D (List.mem_append_right _ hD)
  rw [← shut_app] at h5
  have h6 : Steps P (lone { b.atR a todo with mode := .returning } cs w) (lone { b.atR a todo with mode := .returning, defers := [] } cs (shut w (L ++ M))) :=
    Steps.trans h (Steps.trans (.one h3) (Steps.trans hc (Steps.trans (.one h4) h5)))
  exact ⟨.returned v, shut w (L ++ M), _, hR, h6, hb, rfl, rfl, hkd, fn, by rw [← hf, ← hb]; rfl, hv⟩
theorem run_ret_df {f : FuncId} {n : Nat} {Q : V → Heap → Prop} {fn : Func} (hf : P.funcs[f]? = some fn) {g : FuncId} (hg : DNop P g) {ys : List RV} (hc : cRVs P fn.results.toList = some ys) {k : List TI} {st : St} {l : List V} (hl : rvs G st.tmps st.heap ys = some l) (hq : Q (one l) st.heap) :
    RunM P G f n { df := some g } Q (.c .ret :: k, st) := by
  intro ρ₀ h₀ w₀ ρ a w hn hk hsim ht hd
  simp only [Stmt]
  intro todo hm
  obtain ⟨y, r, rfl, h1, h2⟩ := matchL_cons hm
  cases y <;> simp only [MatchI] at h1 <;> try (exact h1.elim)
  have := cCode_inv h1; simp only at this; subst this
  obtain ⟨e1, e2, ar, cap, e, L, d1, d2, d3⟩ := hd.1
  obtain ⟨L1, L2, rfl, rfl, rfl⟩ := List.map_eq_append_iff.1 d2.symm
  have hs' := shut_sim hsim (L1 ++ L2) fun D hD => (d3 D hD).2
  obtain ⟨x, g1, g2⟩ := results_sound (P := P) hs' ht hc hl
  exact fun b cs hb hkd hr => Goal.steps (.one (stepR_ret hr)) (Fin.leaves_df hf d1 hg e (fun D hD => (d3 D hD).2) g1 ⟨ρ, _, _, x, rfl, g2, hs', shut_keeps hk (L1 ++ L2) fun D hD => (d3 D hD).1, hq⟩ b cs _ hb hkd)
theorem run_ret_drop_df {f : FuncId} {n : Nat} {Q : V → Heap → Prop} {fn : Func} (hf : P.funcs[f]? = some fn) {g : FuncId} (hg : DNop P g) {ys : List RV} (hc : cRVs P fn.results.toList = some ys) {k : List TI} {st : St} (μ : List Nat) (v : V) (h' : Heap) (h1 : μ.take n = List.range n) (h2 : ∀ i ∈ μ.drop n, n ≤ i)
    (hfit : hfit (gmap μ st.heap.length) st.heap μ h') (hu : uniq μ h') (hv : (rvs G st.tmps st.heap ys).map one = some (ren (gmap μ st.heap.length) v)) (hq : Q v h') : RunM P G f n { df := some g } Q (.c .ret :: k, st) := by
  intro ρ₀ h₀ w₀ ρ a w hn hk hsim ht hd
  simp only [Option.map_eq_some_iff] at hv
  obtain ⟨l, hl, hv⟩ := hv
  have := run_ret_df (P := P) (G := G) (f := f) (n := n) (Q := fun u h => u = ren (gmap μ st.heap.length) v ∧ h = st.heap) hf hg hc (k := k) hl ⟨hv, rfl⟩ ρ₀ h₀ w₀ ρ a w hn hk hsim ht hd
  simp only [Stmt] at this ⊢
  intro todo hm b cs hb hk' hr
  obtain ⟨e, w2, fr, hR, h3, h4, h5⟩ := this todo hm b cs hb hk' hr
  exact ⟨e, w2, fr, rq_rename hn μ h1 h2 hfit hu hq hR, h3, h4, h5⟩
theorem run_dfr {f : FuncId} {n : Nat} {Q : V → Heap → Prop} {d : Option Nat} {x : A} {l : List VI} {k : List TI} {st : St} {g : FuncId} {fi ca : List V} (hx : ev st.tmps x = .fn (.func g) fi ca)
    (h : RunM P G f n { df := some g } Q (.r l :: k, ⟨setd st.tmps d (.tup []), st.heap⟩)) : Run P G f n Q (.r (.dfr d x :: l) :: k, st) := by
  intro ρ₀ h₀ w₀ ρ a w hn hk hsim ht hd
  simp only [Stmt]
  intro todo ops idxs hm hr
  cases idxs with
  | nil => exact hr.elim
  | cons i is =>
    obtain ⟨⟨o, ho, hc⟩, hr'⟩ := hr
    obtain ⟨c1, c2, c, y, c3, c4, c5, c6⟩ := cI_dfr hc
    have hX := opU ht.evRel c5 hx (by simp)
    simp only [conc, Option.bind_eq_some_iff, Option.map_eq_some_iff] at hX
    obtain ⟨p, hp, q, hq, hre⟩ := hX
    have hrun : (execOp a.eval o).run P w = .ok (.defer { target := .fn (.func g) q.toArray, args := p.toArray ++ #[] }) w := by
      obtain ⟨dst, op, ty, pos, after, guard⟩ := o
      simp only at c3
      subst c3
      obtain ⟨callee, as, ts⟩ := c
      simp only at c4 c6
      subst c4
      have : as = #[] := by simpa using c6
      subst this
      show (do pure (.defer (← resolve a.eval ⟨.value y, #[], ts⟩ ty)) : Sem Next).run P w = _
      simp only [resolve, ← hre, Deferred.ofValue, Sem.run_bind, Sem.run_pure, Result.andThen_ok]
      simp
    simp only [wpOpsIn, ho]
    rw [if_pos (guard_want ht c1 rfl)]
    refine ⟨fun _ _ => trivial, ?_⟩
    show Oper.uponIn (fw none) 0 P o a _ _ ((execOp a.eval o).run P w)
    rw [hrun, Oper.uponIn_defer, c2]
    refine h ρ₀ h₀ w₀ ρ ({ a with defers := { target := .fn (.func g) q.toArray, args := p.toArray ++ #[] } :: a.defers }.put d undef) w hn hk hsim (TRel.setd (a := { a with defers := { target := .fn (.func g) q.toArray, args := p.toArray ++ #[] } :: a.defers }) ht d (undef_conc ρ)) ⟨?_, fun h => by cases h⟩ todo ops is hm hr'
    rw [put_defers']
    exact ⟨[], a.defers, _, _, rfl, hd.1⟩
end
end Go.Vs
