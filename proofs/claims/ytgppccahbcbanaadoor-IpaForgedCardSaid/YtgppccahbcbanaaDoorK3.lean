/- Text 3 of 11 of this claim: a machine of plain values beside the model, what the functions of the program and of the reference answer over it, and last the row and its card. -/
import Derived.Test.YtgppccahbcbanaaDoorK2
set_option linter.unusedVariables false
set_option linter.unusedSimpArgs false
namespace Go.Vs
variable {P : Program} {G : Nat → List V}
section
def Blk.look (b : Blk) : List V := if b.kind.m = true then b.cells else []
theorem look_ro (c : List V) : Blk.look ⟨.ro, c⟩ = c := rfl
theorem look_rw (c : List V) : Blk.look ⟨.rw, c⟩ = c := rfl
theorem look_grow (c : List V) : Blk.look ⟨.grow, c⟩ = c := rfl
def Less (b b1 : Blk) : Prop := (b.kind ≠ .ro → b = b1) ∧ b.cells.length ≤ b1.cells.length ∧ (b.kind = .ro → ∀ (j : Nat) v, b.cells[j]? = some v → b1.cells[j]? = some v ∧ b1.kind.m = true)
theorem Less.refl (b : Blk) : Less b b := ⟨fun _ => rfl, Nat.le_refl _, fun h _ _ hv => ⟨hv, by rw [h]; rfl⟩⟩
theorem Less.mask (b : Blk) : Less ⟨.ro, b.look⟩ b := by
  refine ⟨fun h => absurd rfl h, ?_, fun _ j v hv => ?_⟩
  · unfold Blk.look; dsimp only; split <;> simp
  · unfold Blk.look at hv; dsimp only at hv
    split at hv
    · rename_i h; exact ⟨hv, h⟩
    · simp at hv
def seen (ρ : Rho) (h : Heap) : Heap := h.mapIdx fun i b => if (place ρ i).isSome = true then b else none
def maskH (h : Heap) (ls as : List Nat) : Heap := h.mapIdx fun i b => if as.contains i = true then none else if ls.contains i = true then b.map fun b => ⟨.ro, b.look⟩ else b
def restore (h h' : Heap) (ms : List Nat) : Heap := h'.mapIdx fun i b => if ms.contains i = true then (h[i]?).join else b
theorem maskH_nil (h : Heap) : maskH h [] [] = h := by
  unfold maskH
  apply List.ext_getElem?
  intro i
  simp
theorem restore_nil (h h' : Heap) : restore h h' [] = h' := by
  unfold restore
  apply List.ext_getElem?
  intro i
  simp
theorem live_seen {ρ : Rho} {h : Heap} {i : Nat} {b : Blk} : Live (seen ρ h) i b ↔ Live h i b ∧ (place ρ i).isSome = true := by
  unfold Live seen
  rw [List.getElem?_mapIdx]
  cases hh : h[i]? with
  | none => simp
  | some x =>
    simp only [Option.map_some, Option.some.injEq]
    split
    · rename_i hp; simp [hp]
    · rename_i hp; simp [hp]
theorem live_mask {h : Heap} {ls as : List Nat} {i : Nat} {b : Blk} (hl : Live (maskH h ls as) i b) : i ∉ as ∧ ∃ b1, Live h i b1 ∧ Less b b1 ∧ (b.kind ≠ .ro → i ∉ ls) := by
  unfold Live maskH at *
  rw [List.getElem?_mapIdx] at hl
  cases hh : h[i]? with
  | none => simp [hh] at hl
  | some x =>
    simp only [hh, Option.map_some, Option.some.injEq] at hl
    split at hl
    · cases hl
    · rename_i hna
      refine ⟨by simpa using hna, ?_⟩
      split at hl
      · rename_i hls
        cases x with
        | none => simp at hl
        | some b1 =>
          simp only [Option.map_some, Option.some.injEq] at hl
          subst hl
          exact ⟨b1, rfl, Less.mask b1, fun hne => absurd rfl hne⟩
      · rename_i hls
        subst hl
        exact ⟨b, rfl, Less.refl b, fun _ => by simpa using hls⟩
theorem Sim.weaken {ρ : Rho} {h h₂ : Heap} {w : World} (s : Sim G ρ h w) (hlen : h₂.length = h.length) (hw : ∀ i b, Live h₂ i b → ∃ b1, Live h i b1 ∧ Less b b1) : Sim G ρ h₂ w where
  rlen := s.rlen.trans hlen.symm
  plc i b hl := let ⟨b1, h1, _⟩ := hw i b hl; s.plc i b1 h1
  cells i b p hl hp hm j v hv hu := by
    obtain ⟨b1, h1, h2, _, h3⟩ := hw i b hl
    rcases Kind.three b.kind with hk | hk | ⟨r, hk⟩
    · exact s.cells i b1 p h1 hp (h3 hk j v hv).2 j v (h3 hk j v hv).1 hu
    · obtain rfl := h2 (Kind.w_ne hk)
      exact s.cells i b p h1 hp hm j v hv hu
    · rw [hk] at hm; cases hm
  blk i b p hl hp := by
    obtain ⟨b1, h1, _, h2, _⟩ := hw i b hl
    have := s.blk i b1 p h1 hp
    exact ⟨this.1, Nat.le_trans h2 this.2⟩
  wr i b p hl hp hk := by
    obtain ⟨b1, h1, h2, _⟩ := hw i b hl
    obtain rfl := h2 (Kind.w_ne hk)
    exact s.wr i b p h1 hp hk
  disj i j bi bj pi pj hne hli hlj hpi hpj hk := by
    obtain ⟨b1, h1, h2, h3⟩ := hw i bi hli
    obtain ⟨b2, h4, h5, h6⟩ := hw j bj hlj
    obtain rfl := h2 hk
    exact s.disj i j bi b2 pi pj hne h1 h4 hpi hpj hk
  globs := s.globs
  gsz := s.gsz
  lp i b p r hl hp hk := by
    obtain ⟨b1, h1, h2, _⟩ := hw i b hl
    obtain rfl := h2 (by rw [hk]; simp)
    exact s.lp i b p r h1 hp hk
theorem cells_of_same {w w' : World} {b j : Nat} (h : w'.heap[b]? = w.heap[b]?) : w'.cell? ⟨b, j, none⟩ = w.cell? ⟨b, j, none⟩ := by simp [World.cell?, h]
theorem frozen_of_same {w w' : World} {b j : Nat} (h : w'.heap[b]? = w.heap[b]?) : w'.frozen? ⟨b, j, none⟩ = w.frozen? ⟨b, j, none⟩ := by simp [World.frozen?, h]
theorem mask_back {ρ₀ ρ ρ' : Rho} {h₀ h h' : Heap} {w₀ w w' : World} {ls as : List Nat} (s : Sim G ρ (seen ρ h) w) (k₁ : Keeps ρ₀ h₀ w₀ ρ (seen ρ h) w)
    (hsub : ∀ i b, Live (maskH h ls as) i b → (place ρ i).isSome = true) (s' : Sim G ρ' h' w') (k : Keeps ρ (maskH h ls as) w ρ' h' w') :
    Sim G ρ' (seen ρ' (restore h h' (ls ++ as))) w' ∧ Keeps ρ₀ h₀ w₀ ρ' (seen ρ' (restore h h' (ls ++ as))) w' := by
  have hMlen : (maskH h ls as).length = h.length := by simp [maskH]
  have hslen : (seen ρ h).length = h.length := by simp [seen]
  have hlen : h.length ≤ h'.length := by rw [← hMlen]; exact k.len
  have hρlen : ρ.length = h.length := by rw [s.rlen, hslen]
  -- a block of the masked heap is one that is seen
  have m2s : ∀ i b, Live (maskH h ls as) i b → ∃ b1, Live (seen ρ h) i b1 ∧ b1 = b1 ∧ (b.kind ≠ .ro → b.kind = b1.kind) := by
    intro i b hl
    obtain ⟨_, b1, h1, h2, h3⟩ := live_mask hl
    exact ⟨b1, live_seen.2 ⟨h1, hsub i b hl⟩, rfl, fun hk => by rw [h2.1 hk]⟩
  have wrM : ∀ n, WR ρ (maskH h ls as) n → WR ρ (seen ρ h) n := by
    rintro n ⟨i, b, p, hl, hp, hk, he⟩
    obtain ⟨b1, h1, _, h3⟩ := m2s i b hl
    exact ⟨i, b1, p, h1, hp, by rw [← h3 hk]; exact hk, he⟩
  have hMmask : ∀ i b, Live (maskH h ls as) i b → b.kind ≠ .ro → i ∉ ls ++ as := by
    intro i b hl hk
    obtain ⟨h1, _, _, _, h5⟩ := live_mask hl
    simp only [List.mem_append, not_or]
    exact ⟨h5 hk, h1⟩
  -- what is masked and seen
  have old : ∀ {i b p}, Live (seen ρ' (restore h h' (ls ++ as))) i b → place ρ' i = some p → i ∈ ls ++ as → Live (seen ρ h) i b ∧ place ρ i = some p ∧ ¬ WR ρ (maskH h ls as) p.block ∧ w'.heap[p.block]? = w.heap[p.block]? := by
    intro i b p hl hp hm
    obtain ⟨h1, h2⟩ := live_seen.1 hl
    have h1' : Live h i b := by
      unfold Live restore at h1
      rw [List.getElem?_mapIdx] at h1
      cases hh : h'[i]? with
      | none => simp [hh] at h1
      | some x =>
        have hc : (ls ++ as).contains i = true := by simpa using hm
        simp only [hh, Option.map_some, hc, if_true, Option.some.injEq] at h1
        unfold Live
        cases hx : h[i]? with
        | none => simp [hx] at h1
        | some y => simp [hx] at h1; rw [h1]
    have hi : i < ρ.length := by rw [hρlen]; exact h1'.lt
    have hp' : place ρ i = some p := by
      cases hq : place ρ i with
      | none => have := k.unb i (by rw [hMlen, ← hρlen]; exact hi) hi hq; rw [this] at hp; cases hp
      | some q => have := k.ext i q hq; rw [this] at hp; exact hp
    have hls : Live (seen ρ h) i b := live_seen.2 ⟨h1', by rw [hp']; rfl⟩
    have hnw : ¬ WR ρ (maskH h ls as) p.block := by
      rintro ⟨j, bj, q, hlj, hq, hkj, he⟩
      have hne : j ≠ i := fun e => hMmask j bj hlj hkj (e ▸ hm)
      obtain ⟨b1, g1, _, g3⟩ := m2s j bj hlj
      exact s.disj j i b1 b q p hne g1 hls hq hp' (by rw [← g3 hkj]; exact hkj) he
    exact ⟨hls, hp', hnw, k.same _ (s.blk i b p hls hp').1 hnw⟩
  -- what isn't masked
  have new : ∀ {i b}, Live (seen ρ' (restore h h' (ls ++ as))) i b → i ∉ ls ++ as → Live h' i b := by
    intro i b hl hm
    obtain ⟨h1, h2⟩ := live_seen.1 hl
    unfold Live restore at h1
    rw [List.getElem?_mapIdx] at h1
    have hc : (ls ++ as).contains i = false := by simpa using hm
    cases hh : h'[i]? with
    | none => simp [hh] at h1
    | some x => simp only [hh, Option.map_some, hc, Bool.false_eq_true, if_false] at h1; unfold Live; rw [hh, h1]
  -- a block that isn't masked and lay there before is one of the masked heap's
  have back : ∀ {i b}, Live h' i b → i < h.length → i ∉ ls ++ as → ∃ b1, Live (maskH h ls as) i b1 := by
    intro i b hl hi hm
    have hg : (maskH h ls as)[i]? = some ((maskH h ls as)[i]'(by rw [hMlen]; exact hi)) := List.getElem?_eq_getElem (by rw [hMlen]; exact hi)
    cases hx : (maskH h ls as)[i]'(by rw [hMlen]; exact hi) with
    | none =>
      rw [hx] at hg
      have := k.dead i hg
      unfold Live at hl
      rw [this] at hl; cases hl
    | some b1 => rw [hx] at hg; exact ⟨b1, hg⟩
  refine ⟨⟨?_, ?_, ?_, ?_, ?_, ?_, s'.globs, s'.gsz, ?_⟩, ?_⟩
  · simp [seen, restore, s'.rlen]
  · intro i b hl
    obtain ⟨_, h2⟩ := live_seen.1 hl
    exact Option.isSome_iff_exists.1 h2
  · intro i b p hl hp hkm j v hv hu
    by_cases hm : i ∈ ls ++ as
    · obtain ⟨g1, g2, g3, g4⟩ := old hl hp hm
      obtain ⟨r, e1, e2⟩ := s.cells i b p g1 g2 hkm j v hv hu
      exact ⟨r, conc_ext k.ext v r e1, by rw [cells_of_same g4]; exact e2⟩
    · exact s'.cells i b p (new hl hm) hp hkm j v hv hu
  · intro i b p hl hp
    by_cases hm : i ∈ ls ++ as
    · obtain ⟨g1, g2, g3, g4⟩ := old hl hp hm
      have := s.blk i b p g1 g2
      exact ⟨Nat.lt_of_lt_of_le this.1 k.size, this.2⟩
    · exact s'.blk i b p (new hl hm) hp
  · intro i b p hl hp hk
    by_cases hm : i ∈ ls ++ as
    · obtain ⟨g1, g2, g3, g4⟩ := old hl hp hm
      obtain ⟨e1, e2, c, e, fr, e3, e4, e5⟩ := s.wr i b p g1 g2 hk
      exact ⟨e1, e2, c, e, fr, by rw [g4]; exact e3, e4, fun j hj => by rw [frozen_of_same g4]; exact e5 j hj⟩
    · exact s'.wr i b p (new hl hm) hp hk
  · intro i j bi bj pi pj hne hli hlj hpi hpj hki
    -- one that is masked against one that isn't
    have mixed : ∀ {m o bm bo pm po}, Live (seen ρ' (restore h h' (ls ++ as))) m bm → Live (seen ρ' (restore h h' (ls ++ as))) o bo → place ρ' m = some pm → place ρ' o = some po → m ∈ ls ++ as → o ∉ ls ++ as → (bm.kind ≠ .ro ∨ bo.kind ≠ .ro) → pm.block ≠ po.block := by
      intro m o bm bo pm po hlm hlo hpm hpo hm ho hk heq
      obtain ⟨g1, g2, g3, g4⟩ := old hlm hpm hm
      have hlo' := new hlo ho
      have hmo : m ≠ o := fun e => ho (e ▸ hm)
      have hblk := (s.blk m bm pm g1 g2).1
      rcases hk with hk | hk
      · rcases Nat.lt_or_ge o h.length with hlt | hge
        · obtain ⟨b1, e1⟩ := back hlo' hlt ho
          obtain ⟨b2, e2, _⟩ := m2s o b1 e1
          obtain ⟨q, hq⟩ := s.plc o b2 e2
          have := k.ext o q hq
          rw [this] at hpo; cases hpo
          exact s.disj m o bm b2 pm _ hmo g1 e2 g2 hq hk heq
        · rcases k.fresh o bo po (by rw [hMlen]; exact hge) hlo' hpo with e | e
          · omega
          · rw [← heq] at e; exact g3 e
      · exact g3 (k.own _ hblk ⟨o, bo, po, hlo', hpo, hk, heq.symm⟩)
    by_cases hmi : i ∈ ls ++ as <;> by_cases hmj : j ∈ ls ++ as
    · obtain ⟨g1, g2, _, _⟩ := old hli hpi hmi
      obtain ⟨g3, g4, _, _⟩ := old hlj hpj hmj
      exact s.disj i j bi bj pi pj hne g1 g3 g2 g4 hki
    · exact mixed hli hlj hpi hpj hmi hmj (.inl hki)
    · exact (mixed hlj hli hpj hpi hmj hmi (.inr hki)).symm
    · exact s'.disj i j bi bj pi pj hne (new hli hmi) (new hlj hmj) hpi hpj hki
  · intro i b p r hl hp hk
    by_cases hm : i ∈ ls ++ as
    · obtain ⟨g1, g2, g3, g4⟩ := old hl hp hm
      obtain ⟨e1, e2, e3⟩ := s.lp i b p r g1 g2 hk
      exact ⟨e1, by rw [g4]; exact e2, e3.ext k.ext⟩
    · exact s'.lp i b p r (new hl hm) hp hk
  · have wrS : ∀ n, n < w.heap.size → WR ρ' (seen ρ' (restore h h' (ls ++ as))) n → WR ρ (seen ρ h) n := by
      rintro n hn ⟨i, b, p, hl, hp, hk, he⟩
      by_cases hm : i ∈ ls ++ as
      · obtain ⟨g1, g2, _, _⟩ := old hl hp hm
        exact ⟨i, b, p, g1, g2, hk, he⟩
      · exact wrM n (k.own n hn ⟨i, b, p, new hl hm, hp, hk, he⟩)
    exact {
      tape := k.tape.trans k₁.tape, os := k.os.trans k₁.os, output := k.output.trans k₁.output
      size := Nat.le_trans k₁.size k.size
      same := fun n hn hw => (k.same n (Nat.lt_of_lt_of_le hn k₁.size) fun e => hw (k₁.own n hn (wrM n e))).trans (k₁.same n hn hw)
      own := fun n hn e => k₁.own n hn (wrS n (Nat.lt_of_lt_of_le hn k₁.size) e)
      fresh := fun i b p hi hl hp => by
        by_cases hm : i ∈ ls ++ as
        · obtain ⟨g1, g2, _, _⟩ := old hl hp hm
          exact k₁.fresh i b p hi g1 g2
        · have hl' := new hl hm
          rcases Nat.lt_or_ge i h.length with hlt | hge
          · obtain ⟨b1, e1⟩ := back hl' hlt hm
            obtain ⟨b2, e2, _⟩ := m2s i b1 e1
            obtain ⟨q, hq⟩ := s.plc i b2 e2
            have := k.ext i q hq
            rw [this] at hp; cases hp
            exact k₁.fresh i b2 _ hi e2 hq
          · rcases k.fresh i b p (by rw [hMlen]; exact hge) hl' hp with e | e
            · exact .inl (Nat.le_trans k₁.size e)
            · rcases Nat.lt_or_ge p.block w₀.heap.size with hlt | hge
              · exact .inr (k₁.own _ hlt (wrM _ e))
              · exact .inl hge
      ext := k₁.ext.trans k.ext
      len := by
        have := k₁.len
        rw [hslen] at this
        simp [seen, restore]; omega
      dead := fun i hi => by
        have h1 := k₁.dead i hi
        have hlt : i < h.length := by rw [← hslen]; exact (List.getElem?_eq_some_iff.1 h1).1
        have hlt' : i < h'.length := by omega
        cases hg : (seen ρ' (restore h h' (ls ++ as)))[i]? with
        | none => simp [seen, restore] at hg; omega
        | some x =>
          cases x with
          | none => rfl
          | some b =>
            exfalso
            have hl : Live (seen ρ' (restore h h' (ls ++ as))) i b := hg
            obtain ⟨p, hp⟩ := Option.isSome_iff_exists.1 (live_seen.1 hl).2
            by_cases hm : i ∈ ls ++ as
            · obtain ⟨g1, _⟩ := old hl hp hm
              unfold Live at g1; rw [h1] at g1; cases g1
            · obtain ⟨b1, e1⟩ := back (new hl hm) hlt hm
              obtain ⟨b2, e2, _⟩ := m2s i b1 e1
              unfold Live at e2; rw [h1] at e2; cases e2
      unb := fun i hh hi hp => k.unb i (by have := k₁.len; rw [hslen] at this; rw [hMlen]; omega) (Nat.lt_of_lt_of_le hi k₁.rle) (k₁.unb i hh hi hp)
      rle := Nat.le_trans k₁.rle k.rle }
end
section
theorem noTwice_nodup : ∀ {l : List Nat}, noTwice l = true → l.Nodup
  | [], _ => List.nodup_nil
  | x :: r, h => by
    simp only [noTwice, Bool.and_eq_true, Bool.not_eq_true'] at h
    refine List.nodup_cons.2 ⟨by simpa using h.1, noTwice_nodup h.2⟩
theorem okAt_split {ops : Array Oper} : ∀ {rest pre : List DS} {mid : List DS}, okAt ops pre (mid ++ rest) = true → okAt ops (pre ++ mid) rest = true
  | _, _, [], h => by simpa using h
  | rest, pre, x :: mid, h => by
    simp only [List.cons_append, okAt, Bool.and_eq_true] at h
    have := okAt_split (mid := mid) h.2
    simpa using this
def beforeStep (acc : Array Nat) (o : Oper) : Array Nat := acc.push (o.after.foldl (fun s e => if Region.binds .any e then s ||| 2 ^ e.on ||| acc.getD e.on 0 else s) 0)
theorem foldl_bits (acc : Array Nat) (j : Nat) : ∀ (l : List Edge) (s : Nat), (l.foldl (fun s e => if Region.binds .any e then s ||| 2 ^ e.on ||| acc.getD e.on 0 else s) s).testBit j = true →
    s.testBit j = true ∨ ∃ e ∈ l, Region.binds .any e = true ∧ (e.on = j ∨ (acc.getD e.on 0).testBit j = true)
  | [], s, h => .inl h
  | e :: l, s, h => by
    simp only [List.foldl_cons] at h
    rcases foldl_bits acc j l _ h with h | ⟨e', h1, h2⟩
    · split at h
      · rename_i hb
        simp only [Nat.testBit_or, Bool.or_eq_true] at h
        rcases h with (h | h) | h
        · exact .inl h
        · rw [Nat.testBit_two_pow] at h
          exact .inr ⟨e, by simp, hb, .inl (by simpa using h)⟩
        · exact .inr ⟨e, by simp, hb, .inr h⟩
      · exact .inl h
    · exact .inr ⟨e', by simp [h1], h2⟩
theorem before_fold : ∀ (l : List Oper) (acc : Array Nat), let r := l.foldl beforeStep acc
    r.size = acc.size + l.length ∧ (∀ k, k < acc.size → r.getD k 0 = acc.getD k 0) ∧
      ∀ (m : Nat) o, l[m]? = some o → ∀ j, (r.getD (acc.size + m) 0).testBit j = true → ∃ e ∈ o.after.toList, Region.binds .any e = true ∧ (e.on = j ∨ (e.on < acc.size + m ∧ (r.getD e.on 0).testBit j = true))
  | [], acc => ⟨by simp, fun _ _ => rfl, fun m o h => by simp at h⟩
  | o :: l, acc => by
    obtain ⟨h1, h2, h3⟩ := before_fold l (beforeStep acc o)
    have hs : (beforeStep acc o).size = acc.size + 1 := by simp [beforeStep]
    simp only [List.foldl_cons]
    refine ⟨by rw [h1, hs]; simp; omega, fun k hk => ?_, fun m o' hm j hj => ?_⟩
    · rw [h2 k (by omega)]
      simp only [beforeStep]
      rw [Array.getD_eq_getD_getElem?, Array.getD_eq_getD_getElem?, Array.getElem?_push_lt hk, Array.getElem?_eq_getElem hk]
    · cases m with
      | zero =>
        simp only [List.getElem?_cons_zero, Option.some.injEq] at hm
        subst hm
        have e0 : (l.foldl beforeStep (beforeStep acc o)).getD (acc.size + 0) 0 = o.after.foldl (fun s e => if Region.binds .any e then s ||| 2 ^ e.on ||| acc.getD e.on 0 else s) 0 := by
          rw [Nat.add_zero, h2 acc.size (by omega)]
          simp [beforeStep]
        rw [e0, ← Array.foldl_toList] at hj
        rcases foldl_bits acc j _ _ hj with h | ⟨e, he, hb, h⟩
        · simp at h
        · refine ⟨e, he, hb, h.imp id fun h => ?_⟩
          have hlt : e.on < acc.size := by
            rcases Nat.lt_or_ge e.on acc.size with hl | hl
            · exact hl
            · simp [Array.getD_eq_getD_getElem?, Array.getElem?_eq_none hl] at h
          refine ⟨by omega, ?_⟩
          have e1 : (beforeStep acc o).getD e.on 0 = acc.getD e.on 0 := by
            simp only [beforeStep]
            rw [Array.getD_eq_getD_getElem?, Array.getD_eq_getD_getElem?, Array.getElem?_push_lt hlt, Array.getElem?_eq_getElem hlt]
          rw [h2 e.on (by omega), e1]; exact h
      | succ m =>
        have := h3 m o' (by simpa using hm) j (by rw [hs]; rw [show acc.size + 1 + m = acc.size + (m + 1) by omega]; exact hj)
        obtain ⟨e, he, hb, h⟩ := this
        exact ⟨e, he, hb, h.imp id fun h => ⟨by omega, h.2⟩⟩
theorem before_eq (ops : Array Oper) : Region.before ops = ops.toList.foldl beforeStep #[] := by
  rw [Region.before, ← Array.foldl_toList]
  rfl
theorem before_done {ops : Array Oper} {D : Nat → Prop} (hD : ∀ i, D i → ∀ j ∈ deps ops i, D j) : ∀ (N i : Nat), i < N → (∀ j ∈ deps ops i, D j) → ∀ j, ((Region.before ops).getD i 0).testBit j = true → D j := by
  intro N
  induction N with
  | zero => intro i hi; omega
  | succ N ih =>
    intro i hi hdeps j hj
    rw [before_eq] at hj
    obtain ⟨h1, h2, h3⟩ := before_fold ops.toList #[]
    have hlt : i < ops.size := by
      rcases Nat.lt_or_ge i ops.size with h | h
      · exact h
      · have : (ops.toList.foldl beforeStep #[]).size ≤ i := by rw [h1]; simpa using h
        have e0 : (ops.toList.foldl beforeStep #[]).getD i 0 = 0 := by rw [Array.getD_eq_getD_getElem?, Array.getElem?_eq_none this]; rfl
        rw [e0] at hj
        simp at hj
    obtain ⟨e, he, hb, h⟩ := h3 i ops[i] (by simp [hlt]) j (by simpa using hj)
    have hdep : e.on ∈ deps ops i := by
      unfold deps
      rw [Array.getElem?_eq_getElem hlt]
      simp only [List.mem_map, List.mem_filter]
      exact ⟨e, ⟨he, hb⟩, rfl⟩
    rcases h with rfl | ⟨hl, h⟩
    · exact hdeps _ hdep
    · refine ih e.on (by simp at hl; omega) (hD _ (hdeps _ hdep)) j ?_
      rw [before_eq]; exact h
def hide (tm : List V) (D : List Nat) : List V := tm.mapIdx fun t v => if D.contains t = true then .unk else v
theorem hide_get {tm : List V} {D : List Nat} {t : Nat} {v : V} (h : (hide tm D)[t]? = some v) (hv : v ≠ .unk) : tm[t]? = some v ∧ t ∉ D := by
  unfold hide at h
  rw [List.getElem?_mapIdx] at h
  cases ht : tm[t]? with
  | none => simp [ht] at h
  | some u =>
    simp only [ht, Option.map_some, Option.some.injEq] at h
    split at h
    · exact absurd h.symm hv
    · rename_i hc
      exact ⟨by rw [h], by simpa using hc⟩
theorem ev_hide {tm : List V} {D : List Nat} {a : A} (h : ∀ t, slotOf a = some t → t ∉ D) : ev (hide tm D) a = ev tm a := by
  cases a <;> try rfl
  rename_i t
  have ht := h t rfl
  simp only [ev, List.getD_eq_getElem?_getD]
  congr 1
  unfold hide
  rw [List.getElem?_mapIdx]
  cases tm[t]? with
  | none => rfl
  | some u => simp [ht]
theorem agree_hide {tm : List V} {D : List Nat} {as : List A} (h : ∀ t ∈ as.filterMap slotOf, t ∉ D) : Agree (hide tm D) tm as := by
  intro a ha
  exact ev_hide fun t ht => h t (List.mem_filterMap.2 ⟨a, ha, ht⟩)
theorem want_hide {tm : List V} {D : List Nat} {g : Option (Nat × Bool)} (h : ∀ t ∈ gslot g, t ∉ D) : wantV (hide tm D) g = wantV tm g := by
  cases g with
  | none => rfl
  | some x =>
    obtain ⟨t, b⟩ := x
    have ht := h t (by simp [gslot])
    have e : (hide tm D).getD t .unk = tm.getD t .unk := by
      simp only [List.getD_eq_getElem?_getD]
      congr 1
      unfold hide
      rw [List.getElem?_mapIdx]
      cases tm[t]? <;> simp [ht]
    simp only [wantV, e]
theorem mk_inj {tm : List V} {o : VOp} {mk : Nat → V} {cs : List V} (h : exA tm o = some (mk, cs)) {i j : Nat} (e : mk i = mk j) : i = j := by
  cases o <;> simp only [exA] at h <;> try (cases h; done)
  case new z => simp only [Option.some.injEq, Prod.mk.injEq] at h; obtain ⟨rfl, _⟩ := h; simpa using e
  case box x => simp only [Option.map_eq_some_iff, Prod.mk.injEq] at h; obtain ⟨_, _, rfl, _⟩ := h; simpa using e
  case bsl len z ps => simp only [Option.map_eq_some_iff, Prod.mk.injEq] at h; obtain ⟨_, _, rfl, _⟩ := h; simpa using e
  case mks s b z l c =>
    split at h <;> try (cases h; done)
    split at h <;> try (cases h; done)
    simp only [Option.some.injEq, Prod.mk.injEq] at h; obtain ⟨rfl, _⟩ := h; simpa using e
def Mkd (st : St) (x : DS) (id : Nat) : Prop := ∃ d o mk cs, x.vi = .op (some d) none o ∧ exA st.tmps o = some (mk, cs) ∧ st.tmps[d]? = some (mk id)
def LookIs (G : Nat → List V) (tm : List V) (h : Heap) (g : Option (Nat × Bool)) (o : VOp) (v : V) : Prop :=
  (wantV tm g = some true ∧ exo G tm h o = some (v, h)) ∨ (wantV tm g = some false ∧ v = .tup [])
def Pend (G : Nat → List V) (n : Nat) (ρ : Rho) (st : St) (x : DS) : Prop :=
  ∃ d g o, x.vi = .op (some d) g o ∧ ((o.looks = true ∧ lookOk o = true ∧ ∃ v, LookIs G st.tmps st.heap g o v ∧ st.tmps[d]? = some v) ∨
    (g = none ∧ o.makes = true ∧ ∃ mk cs id, exA st.tmps o = some (mk, cs) ∧ st.tmps[d]? = some (mk id) ∧ Live st.heap id ⟨.rw, cs⟩ ∧ place ρ id = none ∧ n ≤ id))
structure Cons (P : Program) (G : Nat → List V) (n : Nat) (md : Md) (ops : Array Oper) (ρ₀ : Rho) (h₀ : Heap) (w₀ : World) (pre rest : List DS) (st : St) (L : List DS) (D : List Nat) (ρ : Rho) (listed : Array Bool) (a : Act) (w : World) : Prop where
  lsz : listed.size = ops.size
  lst : ∀ i, i < ops.size → (listed.getD i true = true ↔ (∃ x ∈ pre, x.i = i) ∧ ∀ x ∈ L, x.i ≠ i)
  nod : (L.map (·.i)).Nodup
  sub : ∀ x ∈ L, x ∈ pre ∧ x.fl = true ∧ Pend G n ρ st x
  dst : ∀ x ∈ L, ∀ d, x.vi.dst = some d → d ∈ D
  dst' : ∀ d ∈ D, ∃ x ∈ L, x.vi.dst = some d
  clo : ∀ i, listed.getD i false = true → ∀ j ∈ deps ops i, listed.getD j false = true
  hid : TRel ρ (hide st.tmps D) a.tmps
  def_ : Hd md ρ₀ w₀ w a.defers
  sim : Sim G ρ (seen ρ st.heap) w
  kps : Keeps ρ₀ h₀ w₀ ρ (seen ρ st.heap) w
  dif : ∀ x ∈ L, ∀ y ∈ L, ∀ id, Mkd st x id → Mkd st y id → x.i = y.i
  all : ∀ id b, Live st.heap id b → place ρ id = none → ∃ x ∈ L, ∃ d o mk cs, x.vi = .op (some d) none o ∧ o.makes = true ∧ exA st.tmps o = some (mk, cs) ∧ st.tmps[d]? = some (mk id)
def DRunM (P : Program) (G : Nat → List V) (f : FuncId) (n : Nat) (md : Md) (Q : V → Heap → Prop) (k : List TI) (rest : List DS) (st : St) : Prop :=
  ∀ todo ops pre, MatchL P k todo → PlanIs P ops (pre ++ rest) → planOk ops (pre ++ rest) = true → ∀ ρ₀ h₀ w₀, (h₀.length = n ∧ ρ₀.length = n) → ∀ L D ρ listed a w, Cons P G n md ops ρ₀ h₀ w₀ pre rest st L D ρ listed a w →
    wpAnyIn (fw (rdOf md.ri ρ₀)) 0 P .any ops (Nrm (Fin P f (rdOf md.ri ρ₀) (RQ G ρ₀ h₀ w₀ Q) todo)) (L.length + rest.length) listed a w
end
section
theorem getD_tf {listed : Array Bool} {i n : Nat} (hs : listed.size = n) (hi : i < n) : listed.getD i true = listed.getD i false := by
  have : i < listed.size := by omega
  simp [this]
theorem getD_out {listed : Array Bool} {i n : Nat} (hs : listed.size = n) (hi : n ≤ i) : listed.getD i false = false := by
  have : listed.size ≤ i := by omega
  simp [Array.getElem?_eq_none this]
theorem plan_parts {ops : Array Oper} {pre : List DS} {x : DS} {rest : List DS} (h : planOk ops (pre ++ x :: rest) = true) :
    x.i = x.i ∧ (∀ j ∈ deps ops x.i, ∃ y ∈ pre, y.i = j) ∧ (if x.fl = true then okFloat ops pre x rest else okEff ops pre x rest) = true := by
  simp only [planOk, Bool.and_eq_true] at h
  have := okAt_split (pre := []) (mid := pre) (rest := x :: rest) h.2
  simp only [List.nil_append, okAt, Bool.and_eq_true] at this
  obtain ⟨⟨h2, h3⟩, h4⟩ := this
  refine ⟨rfl, fun j hj => ?_, ?_⟩
  · have := List.all_eq_true.1 h2 j hj
    obtain ⟨y, hy, he⟩ := List.any_eq_true.1 this
    exact ⟨y, hy, by simpa using he⟩
  · cases hf : x.fl <;> simpa [hf] using h3
theorem plan_nodup {ops : Array Oper} {pl : List DS} (h : planOk ops pl = true) : (pl.map (·.i)).Nodup ∧ pl.length = ops.size ∧ ∀ x ∈ pl, x.i < ops.size := by
  simp only [planOk, Bool.and_eq_true] at h
  refine ⟨noTwice_nodup h.1.1.2, by simpa using h.1.1.1, fun x hx => by simpa using List.all_eq_true.1 h.1.2 x hx⟩
theorem inj_of_nodup {pl : List DS} (h : (pl.map (·.i)).Nodup) {x y : DS} (hx : x ∈ pl) (hy : y ∈ pl) (he : x.i = y.i) : x = y := by
  induction pl with
  | nil => cases hx
  | cons z pl ih =>
    simp only [List.map_cons, List.nodup_cons] at h
    cases hx with
    | head =>
      cases hy with
      | head => rfl
      | tail _ hy => exact absurd (List.mem_map.2 ⟨y, hy, he.symm⟩) h.1
    | tail _ hx =>
      cases hy with
      | head => exact absurd (List.mem_map.2 ⟨x, hx, he⟩) h.1
      | tail _ hy => exact ih h.2 hx hy
theorem plan_all {ops : Array Oper} {pl : List DS} (h : planOk ops pl = true) {i : Nat} (hi : i < ops.size) : ∃ x ∈ pl, x.i = i := by
  obtain ⟨h1, h2, h3⟩ := plan_nodup h
  have hs : (pl.map (·.i)) ⊆ List.range ops.size := by
    intro j hj
    obtain ⟨x, hx, rfl⟩ := List.mem_map.1 hj
    exact List.mem_range.2 (h3 x hx)
  -- as many as there are places, and no two the same
  have : ∀ (n : Nat) (l : List Nat), l.Nodup → l.length = n → (∀ j ∈ l, j < n) → ∀ i, i < n → i ∈ l := by
    intro n
    induction n with
    | zero => intro l _ _ _ i hi; omega
    | succ n ih =>
      intro l hn hl hlt i hi
      by_cases hmem : n ∈ l
      · have hn' := hn.erase n
        have hlen : (l.erase n).length = n := by rw [List.length_erase_of_mem hmem, hl]; rfl
        have hlt' : ∀ j ∈ l.erase n, j < n := fun j hj => by
          have h1 := hlt j (List.mem_of_mem_erase hj)
          have h2 : j ≠ n := fun e => by subst e; exact (List.Nodup.not_mem_erase hn) hj
          omega
        by_cases hin : i = n
        · subst hin; exact hmem
        · exact List.mem_of_mem_erase (ih _ hn' hlen hlt' i (by omega))
      · -- too many for so few places
        exfalso
        cases l with
        | nil => simp at hl
        | cons y l =>
          have hy : y < n := by
            have := hlt y (by simp)
            have h2 : y ≠ n := fun e => hmem (by simp [e])
            omega
          simp only [List.nodup_cons] at hn
          have hall : ∀ j ∈ l, j < n := fun j hj => by
            have := hlt j (by simp [hj])
            have h2 : j ≠ n := fun e => hmem (by simp [← e, hj])
            omega
          exact hn.1 (ih l hn.2 (by simpa using hl) hall y hy)
  have hmem := this ops.size (pl.map (·.i)) h1 (by simpa using h2) (fun j hj => List.mem_range.1 (hs hj)) i hi
  obtain ⟨x, hx, he⟩ := List.mem_map.1 hmem
  exact ⟨x, hx, he⟩
theorem mem_ready' {ops : Array Oper} {listed : Array Bool} {i : Nat} : i ∈ Region.ready .any ops listed ↔ i < ops.size ∧ listed.getD i true = false ∧ ∀ j ∈ deps ops i, listed.getD j false = true := by
  unfold Region.ready deps
  simp only [List.mem_filter, List.mem_range, Bool.and_eq_true, Bool.not_eq_true']
  constructor
  · rintro ⟨h1, h2, h3⟩
    refine ⟨h1, h2, ?_⟩
    rw [Array.getElem?_eq_getElem h1] at h3 ⊢
    simp only [Option.map_some, Option.getD_some] at h3
    intro j hj
    simp only [List.mem_map, List.mem_filter] at hj
    obtain ⟨e, ⟨he, hb⟩, rfl⟩ := hj
    have := Array.all_eq_true'.1 h3 e (by simpa using he)
    simpa [hb] using this
  · rintro ⟨h1, h2, h3⟩
    refine ⟨h1, h2, ?_⟩
    rw [Array.getElem?_eq_getElem h1] at h3 ⊢
    simp only [Option.map_some, Option.getD_some]
    refine Array.all_eq_true'.2 fun e he => ?_
    cases hb : Region.binds .any e with
    | false => rfl
    | true =>
      have := h3 e.on (List.mem_map.2 ⟨e, List.mem_filter.2 ⟨by simpa using he, hb⟩, rfl⟩)
      simp [this]
theorem sim_unborn {ρ : Rho} {h : Heap} {w : World} (s : Sim G ρ h w) : Sim G (ρ ++ [none]) (h ++ [none]) w := by
  have hp : ∀ {i p}, place (ρ ++ [none]) i = some p → place ρ i = some p := by
    intro i p hp
    rcases place_append hp with ⟨_, h'⟩ | ⟨_, h'⟩
    · exact h'
    · cases h'
  have hl : ∀ {i b}, Live (h ++ [none]) i b → Live h i b := by
    intro i b hl
    rcases live_append hl with ⟨_, h'⟩ | ⟨_, h'⟩
    · exact h'
    · cases h'
  have hext := Ext.append ρ [none]
  refine ⟨by simp [s.rlen], fun i b h1 => ?_, fun i b p h1 h2 hm j v hv hu => ?_, fun i b p h1 h2 => s.blk i b p (hl h1) (hp h2), fun i b p h1 h2 hk => s.wr i b p (hl h1) (hp h2) hk, fun i j bi bj pi pj hne h1 h2 h3 h4 hk => s.disj i j bi bj pi pj hne (hl h1) (hl h2) (hp h3) (hp h4) hk, s.globs, s.gsz, fun i b p r h1 h2 hk => ?_⟩
  · obtain ⟨p, hp'⟩ := s.plc i b (hl h1); exact ⟨p, hext i p hp'⟩
  · obtain ⟨r, e1, e2⟩ := s.cells i b p (hl h1) (hp h2) hm j v hv hu
    exact ⟨r, conc_ext hext v r e1, e2⟩
  · obtain ⟨e1, e2, e3⟩ := s.lp i b p r (hl h1) (hp h2) hk
    exact ⟨e1, e2, e3.ext hext⟩
theorem keeps_unborn {ρ₀ ρ : Rho} {h₀ h : Heap} {w₀ w : World} (k : Keeps ρ₀ h₀ w₀ ρ h w) (hlen : ρ.length = h.length) : Keeps ρ₀ h₀ w₀ (ρ ++ [none]) (h ++ [none]) w := by
  have hp : ∀ {i p}, place (ρ ++ [none]) i = some p → place ρ i = some p := by
    intro i p hp
    rcases place_append hp with ⟨_, h'⟩ | ⟨_, h'⟩
    · exact h'
    · cases h'
  have hl : ∀ {i b}, Live (h ++ [none]) i b → Live h i b := by
    intro i b hl
    rcases live_append hl with ⟨_, h'⟩ | ⟨_, h'⟩
    · exact h'
    · cases h'
  exact {
    tape := k.tape, os := k.os, output := k.output, size := k.size, same := k.same
    own := by rintro n hn ⟨i, b, p, h1, h2, h3, h4⟩; exact k.own n hn ⟨i, b, p, hl h1, hp h2, h3, h4⟩
    fresh := fun i b p hi h1 h2 => k.fresh i b p hi (hl h1) (hp h2)
    ext := k.ext.trans (Ext.append _ _)
    len := by have := k.len; simp; omega
    dead := fun i hi => by
      have := k.dead i hi
      have hlt : i < h.length := (List.getElem?_eq_some_iff.1 this).1
      rw [List.getElem?_append_left hlt]; exact this
    unb := fun i hh hi hp => unb_append (by have := k.rle; omega) (k.unb i hh hi hp)
    rle := by have := k.rle; simp; omega }
theorem seen_unborn {ρ : Rho} {h : Heap} (hlen : ρ.length = h.length) (b : Blk) : seen (ρ ++ [none]) (h ++ [some b]) = seen ρ h ++ [none] := by
  unfold seen
  apply List.ext_getElem?
  intro i
  rw [List.getElem?_mapIdx]
  rcases Nat.lt_trichotomy i h.length with hi | hi | hi
  · rw [List.getElem?_append_left hi, List.getElem?_append_left (by simpa using hi), List.getElem?_mapIdx]
    have : place (ρ ++ [none]) i = place ρ i := by unfold place; rw [List.getElem?_append_left (by omega)]
    rw [this]
  · subst hi
    have : place (ρ ++ [none]) h.length = none := by unfold place; rw [← hlen]; simp
    simp [this]
  · rw [List.getElem?_eq_none (by simp; omega), List.getElem?_eq_none (by simp; omega)]; rfl
theorem exA_makes {tm : List V} {o : VOp} {mk : Nat → V} {cs : List V} (h : exA tm o = some (mk, cs)) : o.makes = true := by
  cases o <;> simp [exA] at h <;> rfl
end
section
theorem okFloat_spec {ops : Array Oper} {pre : List DS} {x : DS} {rest : List DS} (h : okFloat ops pre x rest = true) : ∃ d g o, x.vi = .op (some d) g o ∧ ((o.looks = true ∧ lookOk o = true) ∨ (o.makes = true ∧ g = none)) ∧
    (∀ y ∈ pre, y.vi.dst ≠ some d ∧ d ∉ y.vi.slots) ∧ d ∉ x.vi.slots ∧ ∀ y ∈ rest, y.vi.dst ≠ some d ∧ (d ∈ y.vi.slots → x.i ∈ deps ops y.i) := by
  unfold okFloat at h
  split at h <;> try (cases h; done)
  rename_i d g o hv
  simp only [Bool.and_eq_true, Bool.or_eq_true, Option.isNone_iff_eq_none] at h
  obtain ⟨⟨⟨h1, h2⟩, h3⟩, h4⟩ := h
  refine ⟨d, g, o, hv, h1, fun y hy => ?_, by simpa using h3, fun y hy => ?_⟩
  · have := List.all_eq_true.1 h2 y hy
    simpa using this
  · have := List.all_eq_true.1 h4 y hy
    simp only [Bool.and_eq_true, Bool.or_eq_true] at this
    refine ⟨by simpa using this.1, fun hd => ?_⟩
    rcases this.2 with h | h
    · simp at h; exact absurd hd h
    · simpa using h
theorem getElem?_set_ne' {tm : List V} {d t : Nat} {v : V} (h : d ≠ t) : (tm.set d v)[t]? = tm[t]? := by rw [List.getElem?_set, if_neg h]
theorem getElem?_set_eq' {tm : List V} {d : Nat} {v : V} (h : d < tm.length) : (tm.set d v)[d]? = some v := by rw [List.getElem?_set, if_pos rfl, if_pos h]
theorem agree_set {tm : List V} {d : Nat} {v : V} {as : List A} (h : d ∉ as.filterMap slotOf) : Agree (tm.set d v) tm as := by
  intro a ha
  cases a <;> try rfl
  rename_i t
  have : d ≠ t := fun e => h (List.mem_filterMap.2 ⟨.t t, ha, by rw [e]; rfl⟩)
  simp only [ev, List.getD_eq_getElem?_getD]
  rw [getElem?_set_ne' this]
theorem hide_set {ρ : Rho} {tm : List V} {D : List Nat} {t : Array Value} (h : TRel ρ (hide tm D) t) (d : Nat) (v : V) : TRel ρ (hide (tm.set d v) (d :: D)) t := by
  refine h.forget (by simp [hide]) fun i u hu hne => ?_
  obtain ⟨h1, h2⟩ := hide_get hu hne
  simp only [List.mem_cons, not_or] at h2
  rw [getElem?_set_ne' (Ne.symm h2.1)] at h1
  unfold hide
  rw [List.getElem?_mapIdx, h1]
  simp [h2.2]
theorem want_set {tm : List V} {d : Nat} {v : V} {g : Option (Nat × Bool)} (h : d ∉ gslot g) : wantV (tm.set d v) g = wantV tm g := by
  cases g with
  | none => rfl
  | some x =>
    obtain ⟨t, b⟩ := x
    have hne : d ≠ t := fun e => h (by simp [gslot, e])
    simp only [wantV, List.getD_eq_getElem?_getD, getElem?_set_ne' hne]
theorem not_slots {d : Nat} {v : VI} (h : d ∉ v.slots) : d ∉ v.as.filterMap slotOf ∧ d ∉ gslot v.grd := by
  unfold VI.slots at h
  simp only [List.mem_append, not_or] at h
  exact h
theorem Pend.keep {n : Nat} {ρ ρ' : Rho} {st st' : St} {x : DS} (h : Pend G n ρ st x) (hag : Agree st'.tmps st.tmps x.vi.as) (hgd : wantV st'.tmps x.vi.grd = wantV st.tmps x.vi.grd) (hd : ∀ d, x.vi.dst = some d → st'.tmps[d]? = st.tmps[d]?)
    (hb : ∀ i b, Live st.heap i b → (∀ d g o, x.vi = .op (some d) g o → (o.looks = true → lookId st.tmps o = some i) ∧ (o.makes = true → ∃ mk cs, exA st.tmps o = some (mk, cs) ∧ st.tmps[d]? = some (mk i))) → st'.heap[i]? = st.heap[i]?)
    (hpl : ∀ i, i < st.heap.length → place ρ i = none → place ρ' i = none) : Pend G n ρ' st' x := by
  obtain ⟨d, g, o, hv, h⟩ := h
  have hag' : Agree st'.tmps st.tmps o.as := by rw [hv] at hag; exact hag
  have hgd' : wantV st'.tmps g = wantV st.tmps g := by rw [hv] at hgd; exact hgd
  have hd' := hd d (by rw [hv]; rfl)
  refine ⟨d, g, o, hv, ?_⟩
  rcases h with ⟨h1, h2, v, h3, h4⟩ | ⟨hg0, h1, mk, cs, id, h2, h3, h4, h5, h6⟩
  · refine .inl ⟨h1, h2, v, ?_, by rw [hd']; exact h4⟩
    rcases h3 with ⟨h3g, h3⟩ | ⟨h3g, h3⟩
    · refine .inl ⟨hgd'.trans h3g, ?_⟩
      rw [exo_congr hag']
      refine looks_same h1 h3 fun i hi => ?_
      obtain ⟨b, hb'⟩ := look_live h1 h3 hi
      refine hb i b hb' fun d' g' o' hv' => ?_
      rw [hv] at hv'
      simp only [VI.op.injEq, Option.some.injEq] at hv'
      obtain ⟨rfl, _, rfl⟩ := hv'
      refine ⟨fun _ => hi, fun hm => ?_⟩
      cases o <;> simp_all [VOp.looks, VOp.makes]
    · exact .inr ⟨hgd'.trans h3g, h3⟩
  · refine .inr ⟨hg0, h1, mk, cs, id, by rw [exA_congr hag']; exact h2, by rw [hd']; exact h3, ?_, hpl id h4.lt h5, h6⟩
    have := hb id _ h4 fun d' g' o' hv' => by
      rw [hv] at hv'
      simp only [VI.op.injEq, Option.some.injEq] at hv'
      obtain ⟨rfl, _, rfl⟩ := hv'
      refine ⟨fun hl => ?_, fun _ => ⟨mk, cs, h2, h3⟩⟩
      cases o <;> simp_all [VOp.looks, VOp.makes]
    unfold Live at *
    rw [this]; exact h4
theorem cons_float {n : Nat} {md : Md} {ops : Array Oper} {ρ₀ : Rho} {h₀ : Heap} {w₀ : World} {pre rest : List DS} {x : DS} {st st' : St} {L : List DS} {D : List Nat} {ρ ρ' : Rho} {listed : Array Bool} {a : Act} {w : World}
    (hplan : planOk ops (pre ++ x :: rest) = true) (hfl : x.fl = true) {d : Nat} (hd : x.vi.dst = some d) (hpre : ∀ y ∈ pre, y.vi.dst ≠ some d ∧ d ∉ y.vi.slots) (htm : ∃ v, st'.tmps = st.tmps.set d v)
    (hheap : ∀ i b, Live st.heap i b → st'.heap[i]? = st.heap[i]?) (hpl : ∀ i, i < st.heap.length → place ρ i = none → place ρ' i = none) (hpend : Pend G n ρ' st' x)
    (c : Cons P G n md ops ρ₀ h₀ w₀ pre (x :: rest) st L D ρ listed a w) (hhid : TRel ρ' (hide st'.tmps (d :: D)) a.tmps) (hsim : Sim G ρ' (seen ρ' st'.heap) w) (hk : Keeps ρ₀ h₀ w₀ ρ' (seen ρ' st'.heap) w)
    (hnew : ∀ id, Mkd st' x id → st.heap.length ≤ id) (hall : ∀ id b, Live st'.heap id b → place ρ' id = none → (Live st.heap id b ∧ place ρ id = none) ∨ ∃ d o mk cs, x.vi = .op (some d) none o ∧ o.makes = true ∧ exA st'.tmps o = some (mk, cs) ∧ st'.tmps[d]? = some (mk id)) :
    Cons P G n md ops ρ₀ h₀ w₀ (pre ++ [x]) rest st' (x :: L) (d :: D) ρ' listed a w := by
  obtain ⟨hnd, hlen, hlt⟩ := plan_nodup hplan
  obtain ⟨v, htm⟩ := htm
  have hxpre : ∀ y ∈ pre, y.i ≠ x.i := by
    intro y hy e
    simp only [List.map_append, List.map_cons] at hnd
    have := (List.nodup_append.1 hnd).2.2 y.i (List.mem_map.2 ⟨y, hy, rfl⟩) x.i (by simp)
    exact this e
  have hag : ∀ y ∈ pre, Agree st'.tmps st.tmps y.vi.as := fun y hy => by rw [htm]; exact agree_set (not_slots (hpre y hy).2).1
  have hgd : ∀ y ∈ pre, wantV st'.tmps y.vi.grd = wantV st.tmps y.vi.grd := fun y hy => by rw [htm]; exact want_set (not_slots (hpre y hy).2).2
  have hback : ∀ y ∈ L, ∀ id, Mkd st' y id → Mkd st y id := by
    rintro y hy id ⟨e, o, mk, cs, h1, h2, h3⟩
    have hyp := (c.sub y hy).1
    have := hag y hyp
    rw [h1] at this
    rw [exA_congr this] at h2
    refine ⟨e, o, mk, cs, h1, h2, ?_⟩
    rw [htm, getElem?_set_ne'] at h3
    · exact h3
    · exact fun e' => (hpre y hyp).1 (by rw [h1, e']; rfl)
  have hold : ∀ y ∈ L, ∀ id, Mkd st' y id → id < st.heap.length := by
    intro y hy id hm
    obtain ⟨e, o, mk, cs, h1, h2, h3⟩ := hback y hy id hm
    obtain ⟨_, _, d', g', o', g1, g2⟩ := c.sub y hy
    rw [h1] at g1
    simp only [VI.op.injEq, Option.some.injEq] at g1
    obtain ⟨rfl, _, rfl⟩ := g1
    rcases g2 with ⟨g2, _⟩ | ⟨_, g2, mk', cs', id', g3, g4, g5, _⟩
    · have := exA_makes h2
      cases o <;> simp_all [VOp.looks, VOp.makes]
    · rw [h2] at g3
      simp only [Option.some.injEq, Prod.mk.injEq] at g3
      obtain ⟨rfl, _⟩ := g3
      rw [h3] at g4
      simp only [Option.some.injEq] at g4
      rw [mk_inj h2 g4]; exact g5.lt
  refine ⟨c.lsz, fun i hi => ?_, ?_, fun y hy => ?_, fun y hy e he => ?_, fun e he => ?_, c.clo, hhid, c.def_, hsim, hk, fun y hy z hz id hmy hmz => ?_, fun id b hl hp => ?_⟩
  · rw [c.lst i hi]
    constructor
    · rintro ⟨⟨y, hy, rfl⟩, h2⟩
      refine ⟨⟨y, by simp [hy], rfl⟩, fun z hz => ?_⟩
      cases hz with
      | head => exact fun e => hxpre y hy e.symm
      | tail _ hz => exact h2 z hz
    · rintro ⟨⟨y, hy, rfl⟩, h2⟩
      simp only [List.mem_append, List.mem_singleton] at hy
      rcases hy with hy | rfl
      · exact ⟨⟨y, hy, rfl⟩, fun z hz => h2 z (by simp [hz])⟩
      · exact absurd rfl (h2 y (by simp))
  · simp only [List.map_cons, List.nodup_cons]
    refine ⟨fun hm => ?_, c.nod⟩
    obtain ⟨y, hy, he⟩ := List.mem_map.1 hm
    exact hxpre y (c.sub y hy).1 he
  · cases hy with
    | head => exact ⟨by simp, hfl, hpend⟩
    | tail _ hy =>
      obtain ⟨h1, h2, h3⟩ := c.sub y hy
      refine ⟨by simp [h1], h2, h3.keep (hag y h1) (hgd y h1) (fun e he => ?_) (fun i b hl _ => hheap i b hl) hpl⟩
      rw [htm]
      exact getElem?_set_ne' fun e' => (hpre y h1).1 (by rw [he, e'])
  · cases hy with
    | head => rw [hd] at he; cases he; simp
    | tail _ hy => exact List.mem_cons_of_mem _ (c.dst y hy e he)
  · cases he with
    | head => exact ⟨x, by simp, hd⟩
    | tail _ he => obtain ⟨y, h1, h2⟩ := c.dst' e he; exact ⟨y, by simp [h1], h2⟩
  · cases hy with
    | head =>
      cases hz with
      | head => rfl
      | tail _ hz => have h1 := hnew id hmy; have h2 := hold z hz id hmz; omega
    | tail _ hy =>
      cases hz with
      | head => have h1 := hnew id hmz; have h2 := hold y hy id hmy; omega
      | tail _ hz => exact c.dif y hy z hz id (hback y hy id hmy) (hback z hz id hmz)
  · rcases hall id b hl hp with ⟨h1, h2⟩ | ⟨d', o, mk, cs, h1, h2, h3, h4⟩
    · obtain ⟨y, hy, d', o, mk, cs, e1, e2, e3, e4⟩ := c.all id b h1 h2
      have hyp := (c.sub y hy).1
      refine ⟨y, by simp [hy], d', o, mk, cs, e1, e2, ?_, ?_⟩
      · have := hag y hyp
        rw [e1] at this
        rw [exA_congr this]; exact e3
      · rw [htm, getElem?_set_ne']
        · exact e4
        · exact fun e' => (hpre y hyp).1 (by rw [e1, e']; rfl)
    · exact ⟨x, by simp, d', o, mk, cs, h1, h2, h3, h4⟩
theorem append_cons' {pre rest : List DS} {x : DS} : pre ++ x :: rest = (pre ++ [x]) ++ rest := by simp
theorem drun_look {f : FuncId} {n : Nat} {md : Md} {Q : V → Heap → Prop} {k : List TI} {x : DS} {rest : List DS} {st : St} (hfl : x.fl = true) {d : Nat} {g : Option (Nat × Bool)} {o : VOp} (hv : x.vi = .op (some d) g o) (hd : d < st.tmps.length) (hlk : o.looks = true) {v : V} (he : LookIs G st.tmps st.heap g o v)
    (h : DRunM P G f n md Q k rest ⟨st.tmps.set d v, st.heap⟩) : DRunM P G f n md Q k (x :: rest) st := by
  intro todo ops pre hm his hplan ρ₀ h₀ w₀ hn L D ρ listed a w c
  obtain ⟨hg, hdeps, hok⟩ := plan_parts hplan
  rw [if_pos hfl] at hok
  obtain ⟨d', g', o', e1, e2, e3, e4, e5⟩ := okFloat_spec hok
  rw [hv] at e1
  simp only [VI.op.injEq, Option.some.injEq] at e1
  obtain ⟨rfl, rfl, rfl⟩ := e1
  have hlook : lookOk o = true := by
    rcases e2 with e2 | e2
    · exact e2.2
    · cases o <;> simp_all [VOp.looks, VOp.makes]
  have hagx : Agree (st.tmps.set d v) st.tmps o.as := by
    refine agree_set ?_
    rw [hv] at e4; exact (not_slots e4).1
  have hgx : wantV (st.tmps.set d v) g = wantV st.tmps g := want_set (by rw [hv] at e4; exact (not_slots e4).2)
  have c' : Cons P G n md ops ρ₀ h₀ w₀ (pre ++ [x]) rest ⟨st.tmps.set d v, st.heap⟩ (x :: L) (d :: D) ρ listed a w := by
    refine cons_float hplan hfl (by rw [hv]; rfl) e3 ⟨v, rfl⟩ (fun _ _ _ => rfl) (fun _ _ h => h) ?_ c (hide_set c.hid d v) c.sim c.kps ?_ (fun id b hl hp => .inl ⟨hl, hp⟩)
    · refine ⟨d, g, o, hv, .inl ⟨hlk, hlook, v, ?_, getElem?_set_eq' hd⟩⟩
      rcases he with ⟨he1, he2⟩ | ⟨he1, he2⟩
      · exact .inl ⟨hgx.trans he1, by rw [exo_congr hagx]; exact he2⟩
      · exact .inr ⟨hgx.trans he1, he2⟩
    · rintro id ⟨e, o', mk, cs, g1, g2, g3⟩
      rw [hv] at g1
      simp only [VI.op.injEq, Option.some.injEq] at g1
      obtain ⟨rfl, _, rfl⟩ := g1
      have := exA_makes g2
      cases o <;> simp_all [VOp.looks, VOp.makes]
  have := h todo ops (pre ++ [x]) hm (by rw [← append_cons']; exact his) (by rw [← append_cons']; exact hplan) ρ₀ h₀ w₀ hn (x :: L) (d :: D) ρ listed a w c'
  simpa [Nat.add_comm, Nat.add_left_comm, Nat.add_assoc] using this
theorem drun_make {f : FuncId} {n : Nat} {md : Md} {Q : V → Heap → Prop} {k : List TI} {x : DS} {rest : List DS} {st : St} (hfl : x.fl = true) {d : Nat} {o : VOp} (hv : x.vi = .op (some d) none o) (hd : d < st.tmps.length) {mk : Nat → V} {cs : List V} (he : exA st.tmps o = some (mk, cs))
    (h : DRunM P G f n md Q k rest ⟨st.tmps.set d (mk st.heap.length), st.heap ++ [some ⟨.rw, cs⟩]⟩) : DRunM P G f n md Q k (x :: rest) st := by
  intro todo ops pre hm his hplan ρ₀ h₀ w₀ hn L D ρ listed a w c
  obtain ⟨hg, hdeps, hok⟩ := plan_parts hplan
  rw [if_pos hfl] at hok
  obtain ⟨d', g', o', e1, e2, e3, e4, e5⟩ := okFloat_spec hok
  rw [hv] at e1
  simp only [VI.op.injEq, Option.some.injEq] at e1
  obtain ⟨rfl, _, rfl⟩ := e1
  have hagx : Agree (st.tmps.set d (mk st.heap.length)) st.tmps o.as := by
    refine agree_set ?_
    rw [hv] at e4; exact (not_slots e4).1
  have hslen : (seen ρ st.heap).length = st.heap.length := by simp [seen]
  have hρlen : ρ.length = st.heap.length := by rw [c.sim.rlen, hslen]
  have hnle : n ≤ st.heap.length := by have := c.kps.len; rw [hslen, hn.1] at this; exact this
  have hpnew : place (ρ ++ [none]) st.heap.length = none := by unfold place; rw [← hρlen]; simp
  have hlnew : Live (st.heap ++ [some ⟨.rw, cs⟩]) st.heap.length ⟨.rw, cs⟩ := by unfold Live; simp
  have c' : Cons P G n md ops ρ₀ h₀ w₀ (pre ++ [x]) rest ⟨st.tmps.set d (mk st.heap.length), st.heap ++ [some ⟨.rw, cs⟩]⟩ (x :: L) (d :: D) (ρ ++ [none]) listed a w := by
    refine cons_float hplan hfl (by rw [hv]; rfl) e3 ⟨_, rfl⟩ (fun i b hl => ?_) (fun i hi hp => unb_append (by omega) hp) ?_ c ((hide_set c.hid d _).ext (Ext.append _ _)) ?_ ?_ ?_ (fun id b hl hp => ?_)
    · rw [List.getElem?_append_left hl.lt]
    · exact ⟨d, none, o, hv, .inr ⟨rfl, exA_makes he, mk, cs, st.heap.length, by rw [exA_congr hagx]; exact he, getElem?_set_eq' hd, hlnew, hpnew, hnle⟩⟩
    · rw [seen_unborn hρlen]; exact sim_unborn c.sim
    · rw [seen_unborn hρlen]; exact keeps_unborn c.kps c.sim.rlen
    · rintro id ⟨e, o', mk', cs', g1, g2, g3⟩
      rw [hv] at g1
      simp only [VI.op.injEq, Option.some.injEq] at g1
      obtain ⟨rfl, _, rfl⟩ := g1
      rw [exA_congr hagx, he] at g2
      simp only [Option.some.injEq, Prod.mk.injEq] at g2
      obtain ⟨rfl, _⟩ := g2
      rw [getElem?_set_eq' hd] at g3
      simp only [Option.some.injEq] at g3
      rw [mk_inj he g3]; exact Nat.le_refl _
    · rcases live_append hl with ⟨h1, h2⟩ | ⟨rfl, h2⟩
      · refine .inl ⟨h2, ?_⟩
        unfold place at hp ⊢
        rw [List.getElem?_append_left (by omega)] at hp; exact hp
      · exact .inr ⟨d, o, mk, cs, hv, exA_makes he, by rw [exA_congr hagx]; exact he, getElem?_set_eq' hd⟩
  have := h todo ops (pre ++ [x]) hm (by rw [← append_cons']; exact his) (by rw [← append_cons']; exact hplan) ρ₀ h₀ w₀ hn (x :: L) (d :: D) _ listed a w c'
  simpa [Nat.add_comm, Nat.add_left_comm, Nat.add_assoc] using this
end
section
theorem place_set {ρ : Rho} {id : Nat} {q : Pl} {i : Nat} {p : Pl} (h : place (ρ.set id (some q)) i = some p) : (i = id ∧ q = p) ∨ (i ≠ id ∧ place ρ i = some p) := by
  unfold place at *
  rw [List.getElem?_set] at h
  split at h
  · rename_i e
    split at h
    · simp at h; exact .inl ⟨e.symm, h⟩
    · simp at h
  · rename_i e; exact .inr ⟨fun e' => e e'.symm, h⟩
theorem ext_set {ρ : Rho} {id : Nat} {q : Pl} (h : place ρ id = none) : Ext ρ (ρ.set id (some q)) := by
  intro i p hp
  have hne : id ≠ i := fun e => by subst e; rw [h] at hp; cases hp
  unfold place at *
  rw [List.getElem?_set, if_neg hne]; exact hp
theorem place_set_eq {ρ : Rho} {id : Nat} {q : Pl} (h : id < ρ.length) : place (ρ.set id (some q)) id = some q := by
  unfold place
  rw [List.getElem?_set, if_pos rfl, if_pos h]; rfl
theorem birth_sim {ρ₀ ρ : Rho} {h₀ h : Heap} {w₀ w : World} (s : Sim G ρ h w) (k₀ : Keeps ρ₀ h₀ w₀ ρ h w) {id : Nat} (hid : place ρ id = none) (hlt : id < h.length) (hn : h₀.length ≤ id) {cs : List V} {rs : Array Value} (e : TypeId)
    (hle : cs.length ≤ rs.size) (hc : ∀ (j : Nat) (v : V), cs[j]? = some v → v ≠ .unk → ∃ r, conc ρ v = some r ∧ rs[j]? = some r) :
    Sim G (ρ.set id (some ⟨w.heap.size, 0, rs.size⟩)) (h.set id (some ⟨.rw, cs⟩)) (w.alloc (.cells rs e)) ∧ Keeps ρ₀ h₀ w₀ (ρ.set id (some ⟨w.heap.size, 0, rs.size⟩)) (h.set id (some ⟨.rw, cs⟩)) (w.alloc (.cells rs e)) := by
  have hG : G w.heap.size = [] := s.gsz _ (Nat.le_refl _)
  have hheap : (w.alloc (.cells rs e)).heap = w.heap.push (.cells rs e) := rfl
  have hold : ∀ (b k : Nat), b < w.heap.size → (w.alloc (.cells rs e)).cell? ⟨b, k, none⟩ = w.cell? ⟨b, k, none⟩ := fun b k hb => by
    simp only [World.cell?, hheap, Array.getElem?_push]
    rw [if_neg (by omega)]
  have hfro : ∀ (b k : Nat), b < w.heap.size → (w.alloc (.cells rs e)).frozen? ⟨b, k, none⟩ = w.frozen? ⟨b, k, none⟩ := fun b k hb => by
    simp only [World.frozen?, hheap, Array.getElem?_push]
    rw [if_neg (by omega)]
  have hnew : ∀ j : Nat, (w.alloc (.cells rs e)).cell? ⟨w.heap.size, j, none⟩ = rs[j]? := fun j => by simp [World.cell?, hheap]
  have hfnew : ∀ j : Nat, (w.alloc (.cells rs e)).frozen? ⟨w.heap.size, j, none⟩ = false := fun j => by simp [World.frozen?, hheap]
  have hρ : id < ρ.length := by rw [s.rlen]; exact hlt
  have hext := ext_set (q := (⟨w.heap.size, 0, rs.size⟩ : Pl)) hid
  have hpid := place_set_eq (q := (⟨w.heap.size, 0, rs.size⟩ : Pl)) hρ
  have both : ∀ {i b p}, Live (h.set id (some ⟨.rw, cs⟩)) i b → place (ρ.set id (some ⟨w.heap.size, 0, rs.size⟩)) i = some p → (i = id ∧ b = ⟨.rw, cs⟩ ∧ p = ⟨w.heap.size, 0, rs.size⟩) ∨ (i ≠ id ∧ Live h i b ∧ place ρ i = some p) := by
    intro i b p hl hp
    rcases live_set i b hl with ⟨rfl, hb⟩ | ⟨hne, hl'⟩
    · rw [hpid] at hp; cases hp; cases hb; exact .inl ⟨rfl, rfl, rfl⟩
    · rcases place_set hp with ⟨e', _⟩ | ⟨_, hp'⟩
      · exact absurd e' hne
      · exact .inr ⟨hne, hl', hp'⟩
  refine ⟨⟨by simp [s.rlen], fun i b hl => ?_, fun i b p hl hp hm j v hv hu => ?_, fun i b p hl hp => ?_, fun i b p hl hp hk => ?_, fun i j bi bj pi pj hne hli hlj hpi hpj hk => ?_, fun g o v hv hu => ?_, fun g hg => s.gsz g (by rw [hheap] at hg; simp at hg; omega), fun i b p r hl hp hk => ?_⟩, ?_⟩
  · rcases live_set i b hl with ⟨rfl, _⟩ | ⟨hne, hl'⟩
    · exact ⟨_, hpid⟩
    · obtain ⟨p, hp⟩ := s.plc i b hl'; exact ⟨p, hext i p hp⟩
  · rcases both hl hp with ⟨rfl, rfl, rfl⟩ | ⟨_, hl', hp'⟩
    · obtain ⟨r, h1, h2⟩ := hc j v hv hu
      exact ⟨r, conc_ext hext v r h1, by simpa [hnew] using h2⟩
    · obtain ⟨r, h1, h2⟩ := s.cells i b p hl' hp' hm j v hv hu
      exact ⟨r, conc_ext hext v r h1, by rw [hold _ _ (s.blk i b p hl' hp').1]; exact h2⟩
  · have hsz : (w.alloc (.cells rs e)).heap.size = w.heap.size + 1 := by rw [hheap]; simp
    rcases both hl hp with ⟨rfl, rfl, rfl⟩ | ⟨_, hl', hp'⟩
    · exact ⟨by simp, hle⟩
    · have := s.blk i b p hl' hp'; exact ⟨by omega, this.2⟩
  · rcases both hl hp with ⟨rfl, rfl, rfl⟩ | ⟨_, hl', hp'⟩
    · exact ⟨rfl, hG, rs, e, (0, 0), by rw [hheap]; simp, rfl, fun j _ => hfnew j⟩
    · obtain ⟨g1, g2, c2, e2, f2, g3, g4, g5⟩ := s.wr i b p hl' hp' hk
      have hlt := (s.blk i b p hl' hp').1
      exact ⟨g1, g2, c2, e2, f2, by rw [hheap, Array.getElem?_push, if_neg (by omega)]; exact g3, g4, fun j hj => by rw [hfro _ _ hlt]; exact g5 j hj⟩
  · rcases both hli hpi with ⟨rfl, rfl, rfl⟩ | ⟨_, hli', hpi'⟩ <;> rcases both hlj hpj with ⟨rfl, rfl, rfl⟩ | ⟨_, hlj', hpj'⟩
    · exact absurd rfl hne
    · have := (s.blk j bj pj hlj' hpj').1; simp; omega
    · have := (s.blk i bi pi hli' hpi').1; simp; omega
    · exact s.disj i j bi bj pi pj hne hli' hlj' hpi' hpj' hk
  · obtain ⟨r, h1, h2⟩ := s.globs g o v hv hu
    refine ⟨r, h1, ?_⟩
    have : g ≠ w.heap.size := fun e' => by rw [e', hG] at hv; simp at hv
    simp only [World.cell?, hheap, Array.getElem?_push] at h2 ⊢
    rw [if_neg this]; exact h2
  · rcases both hl hp with ⟨rfl, rfl, rfl⟩ | ⟨_, hl', hp'⟩
    · simp only at hk; cases hk
    · obtain ⟨g1, g2, g3⟩ := s.lp i b p r hl' hp' hk
      have hlt := (s.blk i b p hl' hp').1
      exact ⟨g1, by rw [hheap, Array.getElem?_push, if_neg (by omega)]; exact g2, g3.ext hext⟩
  · exact {
      tape := k₀.tape, os := k₀.os, output := k₀.output
      size := by have := k₀.size; rw [hheap]; simp; omega
      same := fun b hb hw => by
        have h1 := k₀.same b hb hw
        have h2 := k₀.size
        rw [hheap, Array.getElem?_push, if_neg (by omega)]; exact h1
      own := by
        rintro b hb ⟨i, bi, q, hl, hq, hk, he⟩
        rcases both hl hq with ⟨rfl, rfl, rfl⟩ | ⟨_, hl', hp'⟩
        · have := k₀.size; simp at he; omega
        · exact k₀.own b hb ⟨i, bi, q, hl', hp', hk, he⟩
      fresh := fun i b p hi hl hp => by
        rcases both hl hp with ⟨rfl, rfl, rfl⟩ | ⟨_, hl', hp'⟩
        · exact .inl k₀.size
        · exact k₀.fresh i b p hi hl' hp'
      ext := k₀.ext.trans hext
      len := by simpa using k₀.len
      dead := fun i hi => by
        have hi' : i < h₀.length := (List.getElem?_eq_some_iff.1 hi).1
        rw [List.getElem?_set, if_neg (by omega)]
        exact k₀.dead i hi
      unb := fun i hh hi hp => by
        have h1 := k₀.unb i hh hi hp
        cases hq : place (ρ.set id (some ⟨w.heap.size, 0, rs.size⟩)) i with
        | none => rfl
        | some q =>
          rcases place_set hq with ⟨rfl, _⟩ | ⟨_, h2⟩
          · omega
          · rw [h1] at h2; cases h2
      rle := by simpa using k₀.rle }
end
end Go.Vs
namespace Go.Vs
variable {P : Program} {G : Nat → List V} {ρ : Rho} {w : World} {tm : List V} {re : Operand → Value}
theorem makes_run (he : EvRel ρ tm re) {o : Oper} {vo : VOp} (hc : cO P o.op = some vo) {mk : Nat → V} {cs : List V} (hv : exA tm vo = some (mk, cs)) :
    ∃ r rs e, (execOp re o).run P w = .ok (.value r) (w.alloc (.cells rs e)) ∧ cs.length ≤ rs.size ∧ (∀ (j : Nat) (v : V), cs[j]? = some v → v ≠ .unk → ∃ r, conc ρ v = some r ∧ rs[j]? = some r) ∧
      ∀ (ρ' : Rho) (id : Nat), place ρ' id = some ⟨w.heap.size, 0, rs.size⟩ → conc ρ' (mk id) = some r := by
  obtain ⟨dst, op, ty, pos, after, guard⟩ := o
  simp only at hc
  have notp : ∀ {c : Option POp}, c.map VOp.p = some vo → False := by
    intro c hcc
    simp only [Option.map_eq_some_iff] at hcc
    obtain ⟨po, _, rfl⟩ := hcc
    simp [exA] at hv
  have hc0 := hc
  cases op
  case convert t u x =>
    simp only [cO] at hc
    split at hc
    case h_2 =>
      split at hc
      · simp only [Option.some.injEq] at hc
        subst hc
        simp [exA] at hv
      · simp only [Option.some.injEq] at hc
        subst hc
        simp [exA] at hv
    split at hc <;> try (cases hc; done)
    simp only [Option.map_eq_some_iff] at hc
    obtain ⟨x', hx, rfl⟩ := hc
    simp [exA] at hv
  case alloc t =>
    simp only [cO, Option.map_eq_some_iff] at hc
    obtain ⟨z, hz, rfl⟩ := hc
    simp only [exA, Option.some.injEq, Prod.mk.injEq] at hv
    obtain ⟨rfl, rfl⟩ := hv
    obtain ⟨i, zv, hi, hzv, hcz⟩ := zer_spec hz
    have hl := concs_length (hcz ρ)
    refine ⟨.pointer (some ⟨w.heap.size, 0, none⟩), zv.cells, t, ?_, by simp only [Array.length_toList] at hl; omega, fun j v hv _ => ?_, fun ρ' id hp => by simp [conc, hp]⟩
    · simp [execOp, Instr.alloc, zeroValue, typeInfo, hi, hzv, newVar, newRow]
    · obtain ⟨x, h1, h2⟩ := concs_get (hcz ρ) j v hv; exact ⟨x, h1, by simpa using h2⟩
  case box t x =>
    simp only [cO, Option.map_eq_some_iff] at hc
    obtain ⟨a, ha, rfl⟩ := hc
    simp only [exA, Option.map_eq_some_iff, Prod.mk.injEq] at hv
    obtain ⟨u, hu, rfl, rfl⟩ := hv
    have hcc := cells_conc (opK he ha hu)
    have hl := concs_length hcc
    refine ⟨.pointer (some ⟨w.heap.size, 0, none⟩), (re x).cells, t, ?_, by simp only [Array.length_toList] at hl; omega, fun j v hv _ => ?_, fun ρ' id hp => by simp [conc, hp]⟩
    · simp [execOp, Instr.box, newVar, newRow]
    · obtain ⟨y, h1, h2⟩ := concs_get hcc j v hv; exact ⟨y, h1, by simpa using h2⟩
  case buildSlice t len ps =>
    simp only [cO] at hc
    split at hc <;> try (cases hc; done)
    rename_i e hu
    simp only [Option.bind_eq_some_iff] at hc
    obtain ⟨sz, hsz, z, hz, hc⟩ := hc
    split at hc <;> try (cases hc; done)
    rename_i hcond
    simp only [Option.map_eq_some_iff] at hc
    obtain ⟨l, hl, rfl⟩ := hc
    simp only [exA, Option.map_eq_some_iff, Prod.mk.injEq] at hv
    obtain ⟨cs', hcs, rfl, rfl⟩ := hv
    obtain ⟨i, zv, hi, hzv, hcz⟩ := zer_spec hz
    have hzl := concs_length (hcz ρ)
    have hzsz : zv.cells.size = sz := by simp at hzl; omega
    have hmade : concs ρ (List.replicate len z).flatten = some (madeCells zv.cells (len * sz)).toList := by
      refine concs_of_get (by rw [bsl_len hcond.2, Array.length_toList, size_madeCells]) fun j u hu' => ?_
      obtain ⟨r, h1, h2⟩ := made_conc (hcz ρ) len j u hu'
      rw [hcond.2] at h2
      exact ⟨r, h1, by simpa using h2⟩
    obtain ⟨D, hD, hcD⟩ := fill_sound he ps.toList l hl _ _ hmade cs' hcs
    have hDl := concs_length hcD
    refine ⟨.slice (some ⟨w.heap.size, 0, none⟩) len len, D, e, ?_, by simp only [Array.length_toList] at hDl; omega, fun j v hv _ => ?_, fun ρ' id hp => by simp [conc, hp, Cap.at]⟩
    · have h24 : ¬ (len * sz > 2 ^ 24) := by have := hcond.1; omega
      have hfill : Instr.fill (fun i => some (i * sz, sz)) (Array.map (fun x => if len * sz = 0 then (#[] : Array Value)[x % 0]! else zv.cells[x % zv.cells.size]!) (Array.range (len * sz))) (ps.toList.map fun p => (p.1, re p.2)) = some D := by
        rw [← hD]
        congr 1
        by_cases h0 : len * sz = 0
        · rw [h0]; simp [madeCells]
        · simp [madeCells, h0]
      by_cases h0 : len * sz = 0
      · simp only [h0, if_true] at hfill
        simp only [execOp, Sem.run_bind, Instr.buildSlice, run_underlying hu, Result.andThen_ok, isz_spec hsz, Sem.run_ite, if_neg h24, h0, if_true, Sem.run_pure, Array.toList_map]
        simp only [Array.size_empty]
        rw [hfill]
        simp only [Sem.run_bind, newRow, run_newObj, Result.andThen_ok, Sem.run_pure]
        rfl
      · simp only [h0, if_false] at hfill
        simp only [execOp, Sem.run_bind, Instr.buildSlice, run_underlying hu, Result.andThen_ok, isz_spec hsz, Sem.run_ite, if_neg h24, h0, if_false, Sem.run_pure, Array.toList_map, zeroValue, typeInfo, run_program, hi, hzv]
        rw [hfill]
        simp only [Sem.run_bind, newRow, run_newObj, Result.andThen_ok, Sem.run_pure]
        rfl
    · obtain ⟨y, h1, h2⟩ := concs_get hcD j v hv; exact ⟨y, h1, by simpa using h2⟩
  case makeSlice t l c =>
    simp only [cO] at hc
    split at hc <;> try (cases hc; done)
    rename_i e hu
    simp only [Option.bind_eq_some_iff] at hc
    obtain ⟨i, hi, z, hz, hc⟩ := hc
    split at hc <;> try (cases hc; done)
    rename_i hzl
    simp only [Option.bind_eq_some_iff, Option.map_eq_some_iff] at hc
    obtain ⟨l', hl, c', hcc, rfl⟩ := hc
    simp only [exA] at hv
    split at hv <;> try (cases hv; done)
    rename_i L C hL hC
    split at hv <;> try (cases hv; done)
    rename_i hcond
    obtain ⟨h0, hlc, hby, h63⟩ := hcond
    simp only [Option.some.injEq, Prod.mk.injEq] at hv
    obtain ⟨rfl, rfl⟩ := hv
    obtain ⟨i', zv, hi', hzv, hcz⟩ := zer_spec hz
    rw [hi] at hi'; cases hi'
    obtain ⟨k1, e1, _⟩ := opI he hl hL
    obtain ⟨k2, e2, _⟩ := opI he hcc hC
    have hrun := run_make w t e i zv hu hi hzv k1 k2 L C h0 hlc hby h63
    refine ⟨.slice (some ⟨w.heap.size, 0, none⟩) L.toNat C.toNat, madeCells zv.cells (C.toNat * i.size), e, by simp only [execOp, Sem.run_bind, e1, e2, hrun, Result.andThen_ok, Sem.run_pure], ?_, fun j v hv _ => ?_, fun ρ' id hp => by simp [conc, hp, Cap.at]⟩
    · rw [bsl_len hzl, size_madeCells]; exact Nat.le_refl _
    · obtain ⟨r, h1, h2⟩ := made_conc (hcz ρ) C.toNat j v hv; exact ⟨r, h1, by rw [hzl] at h2; exact h2⟩
  case load t a =>
    simp only [cO, Option.bind_eq_some_iff] at hc
    obtain ⟨agg, hagg, n, hn, hc⟩ := hc
    split at hc <;> try (cases hc; done)
    simp only [Option.map_eq_some_iff] at hc
    obtain ⟨a', ha, rfl⟩ := hc
    simp [exA] at hv
  case store t a x =>
    simp only [cO, Option.bind_eq_some_iff, Option.map_eq_some_iff] at hc
    obtain ⟨n, hn, a', ha, x', hx, rfl⟩ := hc
    simp [exA] at hv
  case slice t x lo hi mx =>
    simp only [cO] at hc
    split at hc
    · simp only [Option.bind_eq_some_iff, Option.map_eq_some_iff] at hc
      obtain ⟨sz, hsz, x', hx, lo', hlo, hi', hhi, mx', hmx, rfl⟩ := hc
      simp [exA] at hv
    · exact (notp hc).elim
  case call c =>
    obtain ⟨callee, args, ts⟩ := c
    exfalso
    cases callee with
    | builtin bi =>
      cases bi <;> try (exact notp (by simpa [cO] using hc0))
      · simp only [cO] at hc
        split at hc <;> try (cases hc; done)
        split at hc <;> try (cases hc; done)
        simp only [Option.bind_eq_some_iff] at hc
        obtain ⟨i, hi, z, hz, hc⟩ := hc
        split at hc <;> try (cases hc; done)
        simp only [Option.bind_eq_some_iff] at hc
        obtain ⟨x', hx, y', hy, hc⟩ := hc
        split at hc <;> try (cases hc; done)
        · simp only [Option.some.injEq] at hc; subst hc; simp [exA] at hv
        · split at hc <;> try (cases hc; done)
          simp only [Option.some.injEq] at hc; subst hc; simp [exA] at hv
      · simp only [cO] at hc
        split at hc <;> try (cases hc; done)
        split at hc <;> try (cases hc; done)
        simp only [Option.bind_eq_some_iff, Option.map_eq_some_iff] at hc
        obtain ⟨n, hn, x', hx, y', hy, rfl⟩ := hc
        simp [exA] at hv
    | value f => exact notp (by simpa [cO] using hc0)
    | invoke r m => exact notp (by simpa [cO] using hc0)
  all_goals exact (notp (by simpa [cO] using hc0)).elim
end Go.Vs
namespace Go.Vs
variable {P : Program} {G : Nat → List V}
section
theorem float_all {ops : Array Oper} {pl : List DS} (h : planOk ops pl = true) {y : DS} (hy : y ∈ pl) (hf : y.fl = true) : ∃ d g o, y.vi = .op (some d) g o ∧ ((o.looks = true ∧ lookOk o = true) ∨ (o.makes = true ∧ g = none)) ∧ d ∉ y.vi.slots ∧
    ∀ z ∈ pl, z ≠ y → z.vi.dst ≠ some d ∧ (d ∈ z.vi.slots → y.i ∈ deps ops z.i) := by
  obtain ⟨p1, p2, rfl⟩ := List.append_of_mem hy
  obtain ⟨_, _, hok⟩ := plan_parts h
  rw [if_pos hf] at hok
  obtain ⟨d, g, o, e1, e2, e3, e4, e5⟩ := okFloat_spec hok
  refine ⟨d, g, o, e1, e2, e4, fun z hz hne => ?_⟩
  simp only [List.mem_append, List.mem_cons] at hz
  rcases hz with hz | hz | hz
  · exact ⟨(e3 z hz).1, fun hd => absurd hd (e3 z hz).2⟩
  · exact absurd hz hne
  · exact e5 z hz
theorem free_of_late {n : Nat} {md : Md} {ops : Array Oper} {ρ₀ : Rho} {h₀ : Heap} {w₀ : World} {pre rest : List DS} {st : St} {L : List DS} {D : List Nat} {ρ : Rho} {listed : Array Bool} {a : Act} {w : World}
    (hplan : planOk ops (pre ++ rest) = true) (c : Cons P G n md ops ρ₀ h₀ w₀ pre rest st L D ρ listed a w) {z : DS} (hz : z ∈ pre ++ rest) (hr : z.i ∈ Region.ready .any ops listed) : ∀ t ∈ z.vi.slots, t ∉ D := by
  intro t ht htD
  obtain ⟨y, hy, hdst⟩ := c.dst' t htD
  obtain ⟨h1, h2, h3⟩ := c.sub y hy
  obtain ⟨d, g, o, e1, e2, e3, e4⟩ := float_all hplan (List.mem_append_left _ h1) h2
  have hd : d = t := by rw [e1] at hdst; simpa [VI.dst] using hdst
  subst hd
  by_cases hne : z = y
  · subst hne; exact e3 ht
  · have hdep := (e4 z hz hne).2 ht
    have hl := (mem_ready'.1 hr).2.2 y.i hdep
    have hlt : y.i < ops.size := (plan_nodup hplan).2.2 y (List.mem_append_left _ h1)
    rw [← getD_tf c.lsz hlt] at hl
    exact ((c.lst y.i hlt).1 hl).2 y hy rfl
theorem seen_same {ρ ρ' : Rho} {h : Heap} (he : Ext ρ ρ') (hu : ∀ i, i < h.length → place ρ i = none → place ρ' i = none) : seen ρ' h = seen ρ h := by
  unfold seen
  apply List.ext_getElem?
  intro i
  rw [List.getElem?_mapIdx, List.getElem?_mapIdx]
  cases hh : h[i]? with
  | none => rfl
  | some x =>
    have hi : i < h.length := (List.getElem?_eq_some_iff.1 hh).1
    simp only [Option.map_some, Option.some.injEq]
    cases hp : place ρ i with
    | none => rw [hu i hi hp]
    | some p => rw [he i p hp]
theorem seen_set {ρ : Rho} {h : Heap} {id : Nat} {b : Blk} (hl : Live h id b) (hid : id < ρ.length) (q : Pl) : seen (ρ.set id (some q)) h = (seen ρ h).set id (some b) := by
  unfold seen
  apply List.ext_getElem?
  intro i
  rw [List.getElem?_mapIdx, List.getElem?_set]
  by_cases hi : id = i
  · subst hi
    have : id < h.length := hl.lt
    rw [if_pos rfl, if_pos (by simpa using this)]
    unfold Live at hl
    rw [hl, place_set_eq hid]
    simp
  · rw [if_neg hi, List.getElem?_mapIdx]
    have : place (ρ.set id (some q)) i = place ρ i := by unfold place; rw [List.getElem?_set, if_neg hi]
    rw [this]
theorem hide_put {ρ : Rho} {tm : List V} {D : List Nat} {a : Act} (h : TRel ρ (hide tm D) a.tmps) {d : Nat} {v : V} {r : Value} (hv : tm[d]? = some v) (hr : conc ρ v = some r) : TRel ρ (hide tm (D.filter (· != d))) (a.put (some d) r).tmps := by
  have h2 := TRel.set h d hr
  refine h2.forget (by simp [hide]) fun i u hu hne => ?_
  obtain ⟨h3, h4⟩ := hide_get hu hne
  rw [List.getElem?_set]
  by_cases hi : d = i
  · subst hi
    rw [hv] at h3; cases h3
    have : d < tm.length := (List.getElem?_eq_some_iff.1 hv).1
    simp [hide, this]
  · rw [if_neg hi]
    have h5 : i ∉ D := fun hm => h4 (List.mem_filter.2 ⟨hm, by simpa using fun e => hi e.symm⟩)
    unfold hide
    rw [List.getElem?_mapIdx, h3]
    simp [h5]
theorem cons_done {n : Nat} {md : Md} {ops : Array Oper} {ρ₀ : Rho} {h₀ : Heap} {w₀ : World} {pre rest : List DS} {st : St} {L : List DS} {D : List Nat} {ρ ρ' : Rho} {listed : Array Bool} {a : Act} {w w' : World} (hplan : planOk ops (pre ++ rest) = true)
    (c : Cons P G n md ops ρ₀ h₀ w₀ pre rest st L D ρ listed a w) {x : DS} (hx : x ∈ L) (hr : x.i ∈ Region.ready .any ops listed) {d : Nat} (hd : x.vi.dst = some d) {v : V} (hv : st.tmps[d]? = some v) {r : Value} (hcr : conc ρ' v = some r) (hext : Ext ρ ρ')
    (hsim : Sim G ρ' (seen ρ' st.heap) w') (hk : Keeps ρ₀ h₀ w₀ ρ' (seen ρ' st.heap) w') (hpend : ∀ y ∈ L, y ≠ x → Pend G n ρ' st y) (hall : ∀ id b, Live st.heap id b → place ρ' id = none → place ρ id = none ∧ ¬ ∃ o mk cs, x.vi = .op (some d) none o ∧ exA st.tmps o = some (mk, cs) ∧ st.tmps[d]? = some (mk id)) (hdf : DfrM md w₀ w' a.defers) :
    Cons P G n md ops ρ₀ h₀ w₀ pre rest st (L.filter fun y => y.i != x.i) (D.filter (· != d)) ρ' (listed.setIfInBounds x.i true) (a.put x.vi.dst r) w' := by
  obtain ⟨hnd, hlen, hlt⟩ := plan_nodup hplan
  have hxp := (c.sub x hx).1
  have hxlt := hlt x (List.mem_append_left _ hxp)
  have inj : ∀ y ∈ L, y.i = x.i → y = x := fun y hy e => inj_of_nodup c.nod hy hx e
  have mem : ∀ y, y ∈ (L.filter fun y => y.i != x.i) ↔ y ∈ L ∧ y ≠ x := fun y => by
    simp only [List.mem_filter, bne_iff_ne, ne_eq]
    constructor
    · rintro ⟨h1, h2⟩; exact ⟨h1, fun e => h2 (by rw [e])⟩
    · rintro ⟨h1, h2⟩; exact ⟨h1, fun e => h2 (inj y h1 e)⟩
  refine ⟨by simp [c.lsz], fun i hi => ?_, ?_, fun y hy => ?_, fun y hy e he => ?_, fun e he => ?_, fun i hi j hj => ?_, ?_, ?_, hsim, hk, fun y hy z hz => c.dif y ((mem y).1 hy).1 z ((mem z).1 hz).1, fun id b hl hp => ?_⟩
  · by_cases hix : x.i = i
    · subst hix
      have : (listed.setIfInBounds x.i true).getD x.i true = true := by
        simp [c.lsz, hxlt]
      rw [this]
      simp only [true_iff]
      refine ⟨⟨x, hxp, rfl⟩, fun y hy e => ?_⟩
      have := (mem y).1 hy
      exact this.2 (inj y this.1 e)
    · have : (listed.setIfInBounds x.i true).getD i true = listed.getD i true := by
        simp [Array.getD_eq_getD_getElem?, Array.getElem?_setIfInBounds_ne hix]
      rw [this, c.lst i hi]
      constructor
      · rintro ⟨h1, h2⟩; exact ⟨h1, fun y hy => h2 y ((mem y).1 hy).1⟩
      · rintro ⟨h1, h2⟩
        refine ⟨h1, fun y hy e => ?_⟩
        by_cases hyx : y = x
        · subst hyx; exact hix e
        · exact h2 y ((mem y).2 ⟨hy, hyx⟩) e
  · exact List.Nodup.sublist (List.Sublist.map _ List.filter_sublist) c.nod
  · obtain ⟨h1, h2⟩ := (mem y).1 hy
    obtain ⟨g1, g2, _⟩ := c.sub y h1
    exact ⟨g1, g2, hpend y h1 h2⟩
  · obtain ⟨h1, h2⟩ := (mem y).1 hy
    refine List.mem_filter.2 ⟨c.dst y h1 e he, ?_⟩
    have : e ≠ d := by
      rintro rfl
      obtain ⟨g1, g2, _⟩ := c.sub y h1
      obtain ⟨d', _, o, e1, _, _, e4⟩ := float_all hplan (List.mem_append_left _ g1) g2
      have hd' : d' = e := by rw [e1] at he; simpa [VI.dst] using he
      subst hd'
      exact (e4 x (List.mem_append_left _ hxp) (Ne.symm h2)).1 hd
    simpa using this
  · obtain ⟨h1, h2⟩ := List.mem_filter.1 he
    obtain ⟨y, g1, g2⟩ := c.dst' e h1
    refine ⟨y, (mem y).2 ⟨g1, fun e' => ?_⟩, g2⟩
    subst e'
    rw [hd] at g2; cases g2
    simp at h2
  · -- conditions of what is done are met
    have mono : ∀ k, listed.getD k false = true → (listed.setIfInBounds x.i true).getD k false = true := fun k hk => by
      rw [Array.getD_eq_getD_getElem?, Array.getElem?_setIfInBounds]
      split
      · split
        · rfl
        · rename_i e hh; subst e; exact absurd (by rw [c.lsz]; exact hxlt) hh
      · rwa [Array.getD_eq_getD_getElem?] at hk
    by_cases hix : x.i = i
    · subst hix
      exact mono j ((mem_ready'.1 hr).2.2 j hj)
    · have : listed.getD i false = true := by
        rw [Array.getD_eq_getD_getElem?, Array.getElem?_setIfInBounds_ne hix, ← Array.getD_eq_getD_getElem?] at hi
        exact hi
      exact mono j (c.clo i this j hj)
  · rw [hd]; exact hide_put (c.hid.ext hext) hv hcr
  · rw [put_defers']; exact ⟨hdf, c.def_.2⟩
  · obtain ⟨h1, h2⟩ := hall id b hl hp
    obtain ⟨y, hy, d', o, mk, cs, e1, e2, e3, e4⟩ := c.all id b hl h1
    refine ⟨y, (mem y).2 ⟨hy, fun e' => ?_⟩, d', o, mk, cs, e1, e2, e3, e4⟩
    subst e'
    have : d' = d := by rw [e1] at hd; simpa [VI.dst] using hd
    subst this
    exact h2 ⟨o, mk, cs, e1, e3, e4⟩
theorem filter_len {L : List DS} (hn : (L.map (·.i)).Nodup) {x : DS} (hx : x ∈ L) : (L.filter fun y => y.i != x.i).length + 1 = L.length := by
  induction L with
  | nil => cases hx
  | cons y L ih =>
    simp only [List.map_cons, List.nodup_cons] at hn
    by_cases hy : y.i = x.i
    · have hyx : ∀ z ∈ L, z.i ≠ x.i := fun z hz e => hn.1 (List.mem_map.2 ⟨z, hz, by rw [e, hy]⟩)
      have : L.filter (fun z => z.i != x.i) = L := List.filter_eq_self.2 fun z hz => by simpa using hyx z hz
      simp [hy, this]
    · have hx' : x ∈ L := by
        cases hx with
        | head => exact absurd rfl hy
        | tail _ h => exact h
      have := ih hn.2 hx'
      simp [hy]; omega
theorem look_placed {ρ : Rho} {tm : List V} {re : Operand → Value} {t : Array Value} (ht : TRel ρ tm t) {o : VOp} (hok : lookOk o = true) {i : Nat} (hi : lookId tm o = some i) : (place ρ i).isSome = true := by
  have slot : ∀ s u, tm.getD s .unk = u → u ≠ .unk → ∃ r, conc ρ u = some r := by
    intro s u hu hne
    cases he : tm[s]? with
    | none => simp [List.getD, he] at hu; exact absurd hu.symm hne
    | some x =>
      simp only [List.getD, he, Option.getD_some] at hu
      subst hu
      obtain ⟨r, h1, _⟩ := ht.2 s x he hne
      exact ⟨r, h1⟩
  cases o <;> simp only [lookId] at hi <;> try (cases hi; done)
  case ld agg n a =>
    split at hi <;> try (cases hi; done)
    rename_i j o hev
    simp only [Option.some.injEq] at hi; subst hi
    cases a <;> simp [lookOk] at hok
    · obtain ⟨r, hr⟩ := slot _ _ hev (by simp)
      simp only [conc, Option.map_eq_some_iff] at hr
      obtain ⟨p, hp, _⟩ := hr
      rw [hp]; rfl
    · simp [ev] at hev
  case slx s x lo hi' mx =>
    split at hi <;> try (cases hi; done)
    rename_i j o len s' hev
    simp only [Option.some.injEq] at hi; subst hi
    cases x <;> simp [lookOk] at hok
    obtain ⟨r, hr⟩ := slot _ _ hev (by simp)
    simp only [conc, Option.map_eq_some_iff] at hr
    obtain ⟨p, hp, _⟩ := hr
    rw [hp]; rfl
  case cvs x =>
    split at hi <;> try (cases hi; done)
    rename_i j o len cp hev
    simp only [Option.some.injEq] at hi; subst hi
    cases x <;> simp [lookOk] at hok
    obtain ⟨r, hr⟩ := slot _ _ hev (by simp)
    simp only [conc, Option.map_eq_some_iff] at hr
    obtain ⟨p, hp, _⟩ := hr
    rw [hp]; rfl
theorem late_step {rd : Option Nat} {n : Nat} {md : Md} {ops : Array Oper} {ρ₀ : Rho} {h₀ : Heap} {w₀ : World} {pre rest : List DS} {st : St} {L : List DS} {D : List Nat} {ρ : Rho} {listed : Array Bool} {a : Act} {w : World} {Q : Exit → Act → World → Prop} {K : Act → World → Prop}
    (hplan : planOk ops (pre ++ rest) = true) (his : PlanIs P ops (pre ++ rest)) (hn : h₀.length = n) (c : Cons P G n md ops ρ₀ h₀ w₀ pre rest st L D ρ listed a w) {x : DS} (hx : x ∈ L) (hr : x.i ∈ Region.ready .any ops listed)
    (hK : ∀ L' D' ρ' a' w', L'.length + 1 = L.length → Cons P G n md ops ρ₀ h₀ w₀ pre rest st L' D' ρ' (listed.setIfInBounds x.i true) a' w' → K a' w') : wpOpIn (fw rd) 0 P ops Q x.i K a w := by
  obtain ⟨hxp, hxf, d, g, o, hv, hp⟩ := c.sub x hx
  have hxm : x ∈ pre ++ rest := List.mem_append_left _ hxp
  obtain ⟨oper, ho, hci⟩ := his x hxm
  rw [hv] at hci
  obtain ⟨c1, c2, c3⟩ := cI_op hci
  have hfree := free_of_late hplan c hxm hr
  have hag : Agree (hide st.tmps D) st.tmps o.as := by
    refine agree_hide fun t ht => hfree t ?_
    rw [hv]; exact List.mem_append_left _ ht
  have hwg : wantV (hide st.tmps D) g = wantV st.tmps g := want_hide fun t ht => hfree t (by rw [hv]; exact List.mem_append_right _ ht)
  have hdst : x.vi.dst = some d := by rw [hv]; rfl
  have hslen : (seen ρ st.heap).length = st.heap.length := by simp [seen]
  have hρlen : ρ.length = st.heap.length := by rw [c.sim.rlen, hslen]
  have hcount := filter_len c.nod hx
  have hodst : oper.dst = x.vi.dst := by rw [c2, hdst]
  unfold wpOpIn
  simp only [ho]
  rcases hp with ⟨h1, h2, v, ⟨h3g, h3⟩ | ⟨h3g, h3⟩, h4⟩ | ⟨rfl, h1, mk, cs, id, h2, h3, h4, h5, h6⟩
  · rw [if_pos (guard_want c.hid c1 (hwg.trans h3g))]
    refine ⟨fun _ _ => trivial, ?_⟩
    rw [Oper.semAt_eq _ _ _ (cO_ne_defer c3)]
    have hlook : exo G (hide st.tmps D) (seen ρ st.heap) o = some (v, seen ρ st.heap) := by
      rw [exo_congr hag]
      refine looks_same h1 h3 fun i hi => ?_
      have hi' : lookId (hide st.tmps D) o = some i := by rw [lookId_congr hag]; exact hi
      have hpl := look_placed (re := a.eval) c.hid h2 hi'
      unfold seen
      rw [List.getElem?_mapIdx]
      cases st.heap[i]? with
      | none => rfl
      | some y => simp [hpl]
    obtain ⟨ρ', w', r, g1, g2, g3, g4⟩ := exo_sound (P := P) c.sim c.hid.evRel c3 hlook
    have hun : ∀ i, i < st.heap.length → place ρ i = none → place ρ' i = none := fun i hi hp => g4.unb i (by rw [hslen]; exact hi) (by omega) hp
    have hseen : seen ρ' st.heap = seen ρ st.heap := seen_same g4.ext hun
    have hc' := cons_done (P := P) hplan c hx hr hdst h4 (r := r) g2 g4.ext (by rw [hseen]; exact g3) (by rw [hseen]; exact Keeps.trans c.sim.plc c.kps g4)
      (fun y hy hne => (c.sub y hy).2.2.keep (fun _ _ => rfl) rfl (fun _ _ => rfl) (fun _ _ _ _ => rfl) hun) (fun id' b hl hp => by
        refine ⟨?_, fun ⟨o', mk', cs', e1, e2, _⟩ => ?_⟩
        · cases hq : place ρ id' with
          | none => rfl
          | some q => rw [g4.ext id' q hq] at hp; cases hp
        · rw [hv] at e1
          simp only [VI.op.injEq, Option.some.injEq] at e1
          obtain ⟨_, _, rfl⟩ := e1
          have := exA_makes e2
          cases o <;> simp_all [VOp.looks, VOp.makes]) (c.def_.1.keep c.sim g4)
    have := hK _ _ _ _ _ hcount hc'
    rcases g1 with g1 | ⟨g1, rfl⟩
    · rw [g1]; simpa [Oper.uponIn, hodst] using this
    · rw [g1]; simpa [Oper.uponIn, hodst] using this
  · subst h3
    rw [if_neg (by rw [guard_want c.hid c1 (hwg.trans h3g)]; simp)]
    refine ⟨fun _ _ => trivial, ?_⟩
    have hc' := cons_done (P := P) hplan c hx hr hdst h4 (r := undef) (undef_conc ρ) (Ext.refl _) c.sim c.kps (fun y hy _ => (c.sub y hy).2.2) (fun id' b hl hp => ⟨hp, fun ⟨o', mk', cs', e1, e2, _⟩ => by
        rw [hv] at e1
        simp only [VI.op.injEq, Option.some.injEq] at e1
        obtain ⟨_, _, rfl⟩ := e1
        have := exA_makes e2
        cases o <;> simp_all [VOp.looks, VOp.makes]⟩) c.def_.1
    rw [hodst]
    exact hK _ _ _ _ _ hcount hc'
  · rw [if_pos (guard_want c.hid c1 rfl)]
    refine ⟨fun _ _ => trivial, ?_⟩
    rw [Oper.semAt_eq _ _ _ (cO_ne_defer c3)]
    have he : exA (hide st.tmps D) o = some (mk, cs) := by rw [exA_congr hag]; exact h2
    obtain ⟨r, rs, e, g1, g2, g3, g4⟩ := makes_run (P := P) (w := w) c.hid.evRel c3 he
    have hid' : id < ρ.length := by rw [hρlen]; exact h4.lt
    obtain ⟨b1, b2⟩ := birth_sim c.sim c.kps h5 (by rw [hslen]; exact h4.lt) (by omega) e g2 g3
    have hss := seen_set h4 hid' ⟨w.heap.size, 0, rs.size⟩
    rw [← hss] at b1 b2
    have hext := ext_set (q := (⟨w.heap.size, 0, rs.size⟩ : Pl)) h5
    have hc' := cons_done (P := P) hplan c hx hr hdst h3 (r := r) (g4 _ id (place_set_eq hid')) hext b1 b2
      (fun y hy hne => by
        obtain ⟨hyp, hyf, dy, gy, oy, hvy, hpy⟩ := c.sub y hy
        refine ⟨dy, gy, oy, hvy, ?_⟩
        rcases hpy with hpy | ⟨rfl, f1, mk', cs', id', f2, f3, f4, f5, f6⟩
        · exact .inl hpy
        · refine .inr ⟨rfl, f1, mk', cs', id', f2, f3, f4, ?_, f6⟩
          cases hq : place (ρ.set id (some ⟨w.heap.size, 0, rs.size⟩)) id' with
          | none => rfl
          | some q =>
            rcases place_set hq with ⟨rfl, _⟩ | ⟨_, e'⟩
            · exfalso
              refine hne (inj_of_nodup c.nod hy hx (c.dif y hy x hx id' ⟨dy, oy, mk', cs', hvy, f2, f3⟩ ⟨d, o, mk, cs, hv, h2, h3⟩))
            · rw [f5] at e'; cases e')
      (fun id' b hl hp => by
        have hne : id' ≠ id := fun e' => by subst e'; rw [place_set_eq hid'] at hp; cases hp
        refine ⟨?_, fun ⟨o', mk', cs', e1, e2, e3⟩ => ?_⟩
        · cases hq : place ρ id' with
          | none => rfl
          | some q => rw [hext id' q hq] at hp; cases hp
        · rw [hv] at e1
          simp only [VI.op.injEq, Option.some.injEq] at e1
          obtain ⟨_, _, rfl⟩ := e1
          rw [h2] at e2
          simp only [Option.some.injEq, Prod.mk.injEq] at e2
          obtain ⟨rfl, _⟩ := e2
          rw [h3] at e3
          simp only [Option.some.injEq] at e3
          exact hne (mk_inj h2 e3).symm) (c.def_.1.alloc _)
    have := hK _ _ _ _ _ hcount hc'
    rw [g1]
    simpa [Oper.uponIn, hodst] using this
end
section
theorem first_split {α : Type} (p : α → Prop) : ∀ {l : List α}, (∃ y ∈ l, p y) → ∃ l1 y l2, l = l1 ++ y :: l2 ∧ p y ∧ ∀ z ∈ l1, ¬ p z
  | [], h => by obtain ⟨y, hy, _⟩ := h; cases hy
  | x :: l, h => by
    by_cases hx : p x
    · exact ⟨[], x, l, rfl, hx, fun z hz => by cases hz⟩
    · obtain ⟨y, hy, hp⟩ := h
      have : ∃ y ∈ l, p y := by
        cases hy with
        | head => exact absurd hp hx
        | tail _ hy => exact ⟨y, hy, hp⟩
      obtain ⟨l1, y, l2, rfl, h2, h3⟩ := first_split p this
      refine ⟨x :: l1, y, l2, rfl, h2, fun z hz => ?_⟩
      cases hz with
      | head => exact hx
      | tail _ hz => exact h3 z hz
section
variable {n : Nat} {md : Md} {ops : Array Oper} {ρ₀ : Rho} {h₀ : Heap} {w₀ : World} {pre rest : List DS} {st : St} {L : List DS} {D : List Nat} {ρ : Rho} {listed : Array Bool} {a : Act} {w : World}
theorem listed_pre (hplan : planOk ops (pre ++ rest) = true) (c : Cons P G n md ops ρ₀ h₀ w₀ pre rest st L D ρ listed a w) {j : Nat} (h : listed.getD j false = true) : (∃ y ∈ pre, y.i = j) ∧ ∀ y ∈ L, y.i ≠ j := by
  rcases Nat.lt_or_ge j ops.size with hj | hj
  · exact (c.lst j hj).1 (by rw [getD_tf c.lsz hj]; exact h)
  · rw [getD_out c.lsz hj] at h; cases h
theorem ready_some (hplan : planOk ops (pre ++ rest) = true) (c : Cons P G n md ops ρ₀ h₀ w₀ pre rest st L D ρ listed a w) (hleft : L ≠ [] ∨ rest ≠ []) : Region.ready .any ops listed ≠ [] := by
  have hex : ∃ y ∈ pre ++ rest, listed.getD y.i true = false := by
    rcases hleft with h | h
    · obtain ⟨y, L', rfl⟩ := List.exists_cons_of_ne_nil h
      have hy := (c.sub y (by simp)).1
      refine ⟨y, List.mem_append_left _ hy, ?_⟩
      have hlt := (plan_nodup hplan).2.2 y (List.mem_append_left _ hy)
      cases hb : listed.getD y.i true with
      | false => rfl
      | true => exact absurd rfl (((c.lst y.i hlt).1 hb).2 y (by simp))
    · obtain ⟨y, r, rfl⟩ := List.exists_cons_of_ne_nil h
      refine ⟨y, by simp, ?_⟩
      have hlt := (plan_nodup hplan).2.2 y (by simp)
      cases hb : listed.getD y.i true with
      | false => rfl
      | true =>
        obtain ⟨⟨z, hz, he⟩, _⟩ := (c.lst y.i hlt).1 hb
        have hnd := (plan_nodup hplan).1
        simp only [List.map_append, List.map_cons] at hnd
        exact absurd he ((List.nodup_append.1 hnd).2.2 z.i (List.mem_map.2 ⟨z, hz, rfl⟩) y.i (by simp))
  obtain ⟨l1, y, l2, h1, h2, h3⟩ := first_split (fun y : DS => listed.getD y.i true = false) hex
  have hlt := (plan_nodup hplan).2.2 y (by rw [h1]; simp)
  rw [h1] at hplan
  obtain ⟨_, hdeps, _⟩ := plan_parts hplan
  have : y.i ∈ Region.ready .any ops listed := by
    refine mem_ready'.2 ⟨hlt, h2, fun j hj => ?_⟩
    obtain ⟨z, hz, rfl⟩ := hdeps j hj
    have hzlt := (plan_nodup hplan).2.2 z (by simp [hz])
    rw [← getD_tf c.lsz hzlt]
    cases hb : listed.getD z.i true with
    | true => rfl
    | false => exact absurd hb (h3 z hz)
  intro e
  rw [e] at this
  cases this
theorem ready_cases (hplan : planOk ops (pre ++ rest) = true) (c : Cons P G n md ops ρ₀ h₀ w₀ pre rest st L D ρ listed a w) {i : Nat} (hi : i ∈ Region.ready .any ops listed) : ∃ z, z.i = i ∧ (z ∈ L ∨ z ∈ rest) := by
  obtain ⟨h1, h2, h3⟩ := mem_ready'.1 hi
  obtain ⟨z, hz, rfl⟩ := plan_all hplan h1
  simp only [List.mem_append] at hz
  rcases hz with hz | hz
  · refine ⟨z, rfl, .inl ?_⟩
    by_cases hm : ∃ y ∈ L, y.i = z.i
    · obtain ⟨y, hy, he⟩ := hm
      have := inj_of_nodup (plan_nodup hplan).1 (List.mem_append_left _ (c.sub y hy).1) (List.mem_append_left _ hz) he
      rw [← this]; exact hy
    · have := (c.lst z.i h1).2 ⟨⟨z, hz, rfl⟩, fun y hy e => hm ⟨y, hy, e⟩⟩
      rw [this] at h2; cases h2
  · exact ⟨z, rfl, .inr hz⟩
end
theorem hide_nil (tm : List V) : hide tm [] = tm := by
  unfold hide
  apply List.ext_getElem?
  intro i
  simp
theorem drun_end {f : FuncId} {n : Nat} {md : Md} {Q : V → Heap → Prop} {k : List TI} {st : St} (h : RunM P G f n md Q (k, st)) : DRunM P G f n md Q k [] st := by
  intro todo ops pre hm his hplan ρ₀ h₀ w₀ hn L
  generalize hN : L.length = N
  induction N generalizing L with
  | zero =>
    intro D ρ listed a w c
    have hL : L = [] := List.length_eq_zero_iff.1 hN
    subst hL
    have hD : D = [] := by
      cases D with
      | nil => rfl
      | cons d D => obtain ⟨y, hy, _⟩ := c.dst' d (by simp); cases hy
    subst hD
    have hseen : seen ρ st.heap = st.heap := by
      unfold seen
      apply List.ext_getElem?
      intro i
      rw [List.getElem?_mapIdx]
      cases hh : st.heap[i]? with
      | none => rfl
      | some x =>
        simp only [Option.map_some, Option.some.injEq]
        split
        · rfl
        · rename_i hp
          cases x with
          | none => rfl
          | some b =>
            have hp' : place ρ i = none := by simpa using hp
            obtain ⟨y, hy, _⟩ := c.all i b hh hp'
            cases hy
    have hid := c.hid
    rw [hide_nil] at hid
    have hs := c.sim
    have hk := c.kps
    rw [hseen] at hs hk
    refine ⟨?_, stmt_of (h ρ₀ h₀ w₀ ρ a w hn hk hs hid c.def_) hm⟩
    · cases hr : Region.ready .any ops listed with
      | nil => rfl
      | cons i l =>
        obtain ⟨z, _, hz | hz⟩ := ready_cases hplan c (i := i) (by rw [hr]; simp)
        · cases hz
        · cases hz
  | succ N ih =>
    intro D ρ listed a w c
    have hL : L ≠ [] := fun e => by rw [e] at hN; cases hN
    refine ⟨fun e => absurd e (ready_some hplan c (.inl hL)), fun i hi => ?_⟩
    obtain ⟨z, rfl, hz | hz⟩ := ready_cases hplan c hi
    · refine late_step hplan his hn.1 c hz hi fun L' D' ρ' a' w' hlen c' => ?_
      exact ih L' (by omega) D' ρ' _ a' w' c'
    · cases hz
theorem run_drw {f : FuncId} {n : Nat} {md : Md} {Q : V → Heap → Prop} {k : List TI} {st : St} {pl : List DS} (hmx : P.follows .mixedOrders = true) (h : DRunM P G f n md Q k pl st) : RunM P G f n md Q (.c (.drw pl) :: k, st) := by
  intro ρ₀ h₀ w₀ ρ a w hn hk hsim ht hd
  simp only [Stmt]
  intro todo hm
  obtain ⟨y, r, rfl, h1, h2⟩ := matchL_cons hm
  cases y <;> simp only [MatchI] at h1 <;> try (exact h1.elim)
  have := cCode_inv h1; simp only at this
  obtain ⟨id, ops, rfl, hpl⟩ := this
  obtain ⟨his, hok⟩ := mkPlan_is hpl
  refine Fin.of_wp (wpIn_region_any hmx ?_)
  have hseen : seen ρ st.heap = st.heap := by
    unfold seen
    apply List.ext_getElem?
    intro i
    rw [List.getElem?_mapIdx]
    cases hh : st.heap[i]? with
    | none => rfl
    | some x =>
      simp only [Option.map_some, Option.some.injEq]
      split
      · rfl
      · rename_i hp
        cases x with
        | none => rfl
        | some b =>
          obtain ⟨p, hp'⟩ := hsim.plc i b hh
          rw [hp'] at hp; simp at hp
  have hlen := (plan_nodup hok).2.1
  have := h r ops [] h2 his hok ρ₀ h₀ w₀ hn [] [] ρ (Array.replicate ops.size false) a { w with drawn := w.drawn + 1 } {
    lsz := by simp
    lst := fun i hi => by simp [hi]
    nod := List.nodup_nil
    sub := fun x hx => by cases hx
    dst := fun x hx => by cases hx
    dst' := fun x hx => by cases hx
    clo := fun i hi => by
      exfalso
      rw [Array.getD_eq_getD_getElem?, Array.getElem?_replicate] at hi
      split at hi <;> simp at hi
    hid := by rw [hide_nil]; exact ht
    def_ := hd
    sim := by rw [hseen]; exact ⟨hsim.rlen, hsim.plc, hsim.cells, hsim.blk, hsim.wr, hsim.disj, hsim.globs, hsim.gsz, hsim.lp⟩
    kps := by rw [hseen]; exact ⟨hk.tape, hk.os, hk.output, hk.size, hk.same, hk.own, hk.fresh, hk.ext, hk.len, hk.dead, hk.unb, hk.rle⟩
    dif := fun x hx => by cases hx
    all := fun id b hl hp => by
      obtain ⟨p, hp'⟩ := hsim.plc id b hl
      rw [hp'] at hp; cases hp }
  simpa [hlen] using this
def idOf : V → Option Nat
  | .ptr i _ => some i
  | .sl i _ _ _ => some i
  | _ => none
def idsAt (tm : List V) (l : List Nat) : List Nat := l.filterMap fun d => idOf (tm.getD d .unk)
def Eff (P : Program) (G : Nat → List V) (ops : Array Oper) (x : DS) (tm₀ : List V) (hM : Heap) (R : V → Heap → Prop) : Prop :=
  ∀ (rd : Option Nat) ρ tm a w (K : Act → World → Prop) Q oper, ops[x.i]? = some oper → cI P ops oper = some x.vi → wantV tm x.vi.grd = wantV tm₀ x.vi.grd → Agree tm tm₀ x.vi.as → TRel ρ tm a.tmps → Sim G ρ hM w →
    (∀ ρ' v h' r w', R v h' → conc ρ' v = some r → Sim G ρ' h' w' → Keeps ρ hM w ρ' h' w' → K (a.put x.vi.dst r) w') → wpOpIn (fw rd) 0 P ops Q x.i K a w
theorem eff_op {ops : Array Oper} {x : DS} {tm₀ : List V} {hM h' : Heap} {d : Option Nat} {g : Option (Nat × Bool)} {o : VOp} (hv : x.vi = .op d g o) (hw : wantV tm₀ g = some true) {v : V} (he : exo G tm₀ hM o = some (v, h')) : Eff P G ops x tm₀ hM fun v' h'' => v' = v ∧ h'' = h' := by
  intro rd ρ tm a w K Q oper ho hc hg hag ht hs hK
  rw [hv] at hc hg hag
  simp only [VI.grd] at hg
  rw [hw] at hg
  obtain ⟨c1, c2, c3⟩ := cI_op hc
  have hag' : Agree tm tm₀ o.as := hag
  rw [← exo_congr hag'] at he
  obtain ⟨ρ', w', r, h1, h2, h3, h4⟩ := exo_sound (P := P) hs ht.evRel c3 he
  unfold wpOpIn
  simp only [ho]
  rw [if_pos (guard_want ht c1 hg)]
  refine ⟨fun _ _ => trivial, ?_⟩
  rw [Oper.semAt_eq _ _ _ (cO_ne_defer c3)]
  have := hK ρ' v h' r w' ⟨rfl, rfl⟩ h2 h3 h4
  rw [hv] at this
  have hd : (VI.op d g o).dst = oper.dst := by rw [c2]; rfl
  rw [hd] at this
  rcases h1 with h1 | ⟨h1, rfl⟩
  · rw [h1]; exact this
  · rw [h1]; exact this
theorem calV_congr' {tm tm' : List V} {c : Cal} {xs : List A} (ha : Agree tm tm' (c.as ++ xs)) : calV P tm c xs = calV P tm' c xs := calV_congr ha
theorem eff_call {ops : Array Oper} {x : DS} {tm₀ : List V} {hM : Heap} {d : Option Nat} {g : Option (Nat × Bool)} {cal : Cal} {xs : List A} (hv : x.vi = .call d g cal xs) (hw : wantV tm₀ g = some true) {f' : FuncId} {args : List V} (hcal : calV P tm₀ cal xs = some (f', args)) {R : V → Heap → Prop} (h : VCall P G f' args hM R) : Eff P G ops x tm₀ hM R := by
  intro rd ρ tm a w K Q o ho hc hg hag ht hs hK
  rw [hv] at hc hg hag
  simp only [VI.grd] at hg
  rw [hw] at hg
  obtain ⟨c1, c2, c, c3, c4, c5⟩ := cI_call hc
  rw [← calV_congr' hag] at hcal
  obtain ⟨rargs, e1, e2⟩ := cal_sound (P := P) ht.evRel c4 c5 hcal o.type w
  have hrun : (execOp a.eval o).run P w = (callFunc f' rargs.toArray).run P w := by
    rw [← e2]
    obtain ⟨dst, op, ty, pos, after, guard⟩ := o
    simp only at c3
    subst c3
    rfl
  unfold wpOpIn
  simp only [ho]
  rw [if_pos (guard_want ht c1 hg)]
  refine ⟨fun _ _ => trivial, ?_⟩
  rw [Oper.semAt_eq _ _ _ (fun c' e => by rw [c3] at e; cases e), hrun]
  have next : ∀ (v : Value) (w' : World), RQ G ρ hM w R (.returned v) w' → K (a.put o.dst v) w' := by
    rintro v w' ⟨ρ', u, h', r, h1, h2, h3, h4, h5⟩
    cases h1
    have := hK ρ' u h' v w' h5 h2 h3 h4
    rw [hv] at this
    rw [c2]; exact this
  rcases h ρ w rargs hs e1 with ⟨g1, g2⟩ | ⟨v, w', g1, g2⟩
  · rw [g1]
    refine ⟨fun h => (by cases h), callsIn_fw (g2.mono fun e w' he => ?_)⟩
    cases e with
    | returned v => exact next v w' he
    | panicked ch => obtain ⟨ρ', v, h', r', hbad, _⟩ := he; cases hbad
    | outgrown => obtain ⟨ρ', v, h', r', hbad, _⟩ := he; cases hbad
  · rw [g1]
    exact next v w' g2
theorem eff_skip {ops : Array Oper} {x : DS} {tm₀ : List V} {hM : Heap} (hw : wantV tm₀ x.vi.grd = some false) : Eff P G ops x tm₀ hM fun v h' => v = .tup [] ∧ h' = hM := by
  intro rd ρ tm a w K Q o ho hc hg hag ht hs hK
  rw [hw] at hg
  have hgc : cGuard ops o.guard = some x.vi.grd ∧ o.dst = x.vi.dst := by
    cases hv : x.vi with
    | op d g vo => rw [hv] at hc; obtain ⟨c1, c2, _⟩ := cI_op hc; exact ⟨c1, c2⟩
    | call d g cal xs => rw [hv] at hc; obtain ⟨c1, c2, _⟩ := cI_call hc; exact ⟨c1, c2⟩
    | dfr d a => rw [hv] at hc; obtain ⟨c1, c2, _⟩ := cI_dfr hc; exact ⟨c1, c2⟩
  unfold wpOpIn
  simp only [ho]
  rw [if_neg (by rw [guard_want ht hgc.1 hg]; simp)]
  refine ⟨fun _ _ => trivial, ?_⟩
  rw [hgc.2]
  exact hK ρ (.tup []) hM undef w ⟨rfl, rfl⟩ (undef_conc ρ) hs (Keeps.refl _ _ _)
theorem okEff_spec {ops : Array Oper} {pre : List DS} {x : DS} {rest : List DS} (h : okEff ops pre x rest = true) :
    (∀ y ∈ rest, ∃ j ∈ deps ops y.i, j = x.i ∨ ∃ z ∈ rest, z.i = j) ∧
    ∀ y ∈ pre, y.fl = true → ((Region.before ops).getD x.i 0).testBit y.i = true ∨ ((∀ d, x.vi.dst = some d → d ∉ y.vi.slots) ∧
      ∀ d g o, y.vi = .op (some d) g o → (o.makes = true → d ∈ x.allocs) ∧ (o.makes = false → ∀ s, lookSlot o = some s → s ∈ x.loads ∨ ∃ agg n, o = .ld agg n (.t s) ∧ keepN n s ∈ x.loads)) := by
  unfold okEff at h
  simp only [Bool.and_eq_true] at h
  refine ⟨fun y hy => ?_, fun y hy hf => ?_⟩
  · have := List.all_eq_true.1 h.1 y hy
    obtain ⟨j, hj, he⟩ := List.any_eq_true.1 this
    refine ⟨j, hj, ?_⟩
    simpa using he
  · have := List.all_eq_true.1 h.2 y hy
    simp only [hf, Bool.not_true, Bool.false_or, Bool.or_eq_true, Bool.and_eq_true] at this
    refine this.imp id fun hh => ⟨fun d hd => ?_, fun d g o hv => ⟨fun hm => ?_, fun hm s hs => ?_⟩⟩
    · have h1 := hh.1
      rw [hd] at h1
      simpa using h1
    · have h2 := hh.2
      rw [hv] at h2
      simpa [hm] using h2
    · have h2 := hh.2
      rw [hv] at h2
      simp only [hm, hs, Bool.false_eq_true, if_false, Bool.or_eq_true, List.contains_iff_mem] at h2
      rcases h2 with h2 | h2
      · exact .inl h2
      · right
        unfold keeps at h2
        split at h2
        · rename_i agg n a
          cases a <;> simp only [lookSlot] at hs <;> try (cases hs; done)
          simp only [Option.some.injEq] at hs
          subst hs
          exact ⟨agg, n, rfl, by simpa using h2⟩
        · cases h2
end
section
theorem mk_idOf {tm : List V} {o : VOp} {mk : Nat → V} {cs : List V} (h : exA tm o = some (mk, cs)) (i : Nat) : idOf (mk i) = some i := by
  cases o <;> simp only [exA] at h <;> try (cases h; done)
  case new z => simp only [Option.some.injEq, Prod.mk.injEq] at h; obtain ⟨rfl, _⟩ := h; rfl
  case box x => simp only [Option.map_eq_some_iff, Prod.mk.injEq] at h; obtain ⟨_, _, rfl, _⟩ := h; rfl
  case bsl len z ps => simp only [Option.map_eq_some_iff, Prod.mk.injEq] at h; obtain ⟨_, _, rfl, _⟩ := h; rfl
  case mks s b z l c =>
    split at h <;> try (cases h; done)
    split at h <;> try (cases h; done)
    simp only [Option.some.injEq, Prod.mk.injEq] at h; obtain ⟨rfl, _⟩ := h; rfl
theorem setd_other {tm : List V} {d : Option Nat} {v : V} {t : Nat} (h : d ≠ some t) : (setd tm d v)[t]? = tm[t]? := by
  cases d with
  | none => rfl
  | some d => exact getElem?_set_ne' fun e => h (by rw [e])
theorem agree_setd {tm : List V} {d : Option Nat} {v : V} {as : List A} (h : ∀ e, d = some e → e ∉ as.filterMap slotOf) : Agree (setd tm d v) tm as := by
  cases d with
  | none => intro a _; rfl
  | some d => exact agree_set (h d rfl)
theorem hide_setd {ρ : Rho} {tm : List V} {D : List Nat} {a : Act} (h : TRel ρ (hide tm D) a.tmps) {d : Option Nat} {v : V} {r : Value} (hd : ∀ e, d = some e → e ∉ D) (hr : conc ρ v = some r) : TRel ρ (hide (setd tm d v) D) (a.put d r).tmps := by
  cases d with
  | none => exact h
  | some d =>
    have h2 := TRel.set h d hr
    refine h2.forget (by simp [hide, setd]) fun i u hu hne => ?_
    obtain ⟨h3, h4⟩ := hide_get hu hne
    simp only [setd] at h3
    rw [List.getElem?_set] at h3 ⊢
    split
    · rename_i hi
      subst hi
      rw [if_pos rfl] at h3
      split at h3
      · rename_i hlt
        rw [if_pos (by simpa [hide] using hlt)]; exact h3
      · cases h3
    · rename_i hi
      rw [if_neg hi] at h3
      unfold hide
      rw [List.getElem?_mapIdx, h3]
      simp [h4]
theorem restore_in {h h' : Heap} {ms : List Nat} {i : Nat} {b : Blk} (hl : Live h i b) (hlen : h.length ≤ h'.length) (hi : i ∈ ms) : (restore h h' ms)[i]? = h[i]? := by
  have hlt := hl.lt
  unfold Live at hl
  unfold restore
  rw [List.getElem?_mapIdx, hl]
  have : h'[i]? = some (h'[i]'(by omega)) := List.getElem?_eq_getElem (by omega)
  rw [this]
  simp [hi]
theorem restore_live {h h' : Heap} {ms : List Nat} {i : Nat} {b : Blk} (hl : Live (restore h h' ms) i b) : (i ∈ ms ∧ Live h i b) ∨ (i ∉ ms ∧ Live h' i b) := by
  unfold Live restore at *
  rw [List.getElem?_mapIdx] at hl
  cases hh : h'[i]? with
  | none => simp [hh] at hl
  | some x =>
    simp only [hh, Option.map_some, Option.some.injEq] at hl
    by_cases hm : i ∈ ms
    · refine .inl ⟨hm, ?_⟩
      rw [if_pos (by simpa using hm)] at hl
      cases hx : h[i]? with
      | none => simp [hx] at hl
      | some y => simp [hx] at hl; rw [hl]
    · rw [if_neg (by simpa using hm)] at hl
      exact .inr ⟨hm, by rw [hl]⟩
theorem look_idOf {tm : List V} {o : VOp} {i : Nat} (h1 : lookOk o = true) (hl : o.looks = true) (hi : lookId tm o = some i) : (∃ s, lookSlot o = some s ∧ idOf (tm.getD s .unk) = some i) := by
  cases o <;> simp only [lookId] at hi <;> try (cases hi; done)
  case ld agg n a =>
    split at hi <;> try (cases hi; done)
    rename_i j o hev
    simp only [Option.some.injEq] at hi; subst hi
    cases a <;> simp [lookOk] at h1
    · refine ⟨_, rfl, ?_⟩
      simp only [ev] at hev
      rw [hev]; rfl
    · simp [ev] at hev
  case slx s x lo hi' mx =>
    split at hi <;> try (cases hi; done)
    rename_i j o len s' hev
    simp only [Option.some.injEq] at hi; subst hi
    cases x <;> simp [lookOk] at h1
    refine ⟨_, rfl, ?_⟩
    simp only [ev] at hev
    rw [hev]; rfl
  case cvs x =>
    split at hi <;> try (cases hi; done)
    rename_i j o len cp hev
    simp only [Option.some.injEq] at hi; subst hi
    cases x <;> simp [lookOk] at h1
    refine ⟨_, rfl, ?_⟩
    simp only [ev] at hev
    rw [hev]; rfl
def KeepOk (G : Nat → List V) (ls : List Nat) (tm : List V) (h h' : Heap) : Prop := ∀ n s, keepN n s ∈ ls → ldc G h' (tm.getD s .unk) n = ldc G h (tm.getD s .unk) n
theorem KeepOk.all {ls : List Nat} {tm : List V} {h h' : Heap} (ha : ls.all (fun a => decide (a < 1000000)) = true) : KeepOk G ls tm h h' := fun n s hm => by
  have h2 : keepN n s < 1000000 := of_decide_eq_true (List.all_eq_true.1 ha _ hm)
  unfold keepN at h2
  omega
theorem Pend.keepK {n : Nat} {ρ ρ' : Rho} {st st' : St} {x : DS} (h : Pend G n ρ st x) (hag : Agree st'.tmps st.tmps x.vi.as) (hgd : wantV st'.tmps x.vi.grd = wantV st.tmps x.vi.grd) (hd : ∀ d, x.vi.dst = some d → st'.tmps[d]? = st.tmps[d]?)
    {d : Nat} {g : Option (Nat × Bool)} {agg : Bool} {k s : Nat} (hx : x.vi = .op (some d) g (.ld agg k (.t s))) (hl : ldc G st'.heap (st.tmps.getD s .unk) k = ldc G st.heap (st.tmps.getD s .unk) k) : Pend G n ρ' st' x := by
  obtain ⟨d', g', o, hv, h⟩ := h
  rw [hx] at hv
  simp only [VI.op.injEq, Option.some.injEq] at hv
  obtain ⟨rfl, rfl, rfl⟩ := hv
  have hag' : Agree st'.tmps st.tmps (VOp.ld agg k (.t s)).as := by rw [hx] at hag; exact hag
  have hgd' : wantV st'.tmps g = wantV st.tmps g := by rw [hx] at hgd; exact hgd
  have hd' := hd d (by rw [hx]; rfl)
  refine ⟨d, g, _, hx, ?_⟩
  rcases h with ⟨h1, h2, v, h3, h4⟩ | ⟨_, h1, _⟩
  · refine .inl ⟨h1, h2, v, ?_, by rw [hd']; exact h4⟩
    rcases h3 with ⟨h3g, h3⟩ | ⟨h3g, h3⟩
    · refine .inl ⟨hgd'.trans h3g, ?_⟩
      rw [exo_congr hag']
      simp only [exo, ev] at h3 ⊢
      rw [hl]
      split at h3
      · rename_i l hl'
        split at h3
        · simp only [Option.some.injEq, Prod.mk.injEq, and_true] at h3 ⊢
          rename_i ha
          rw [if_pos ha, h3]
        · rename_i ha
          rw [if_neg ha]
          split at h3
          · simp only [Option.some.injEq, Prod.mk.injEq, and_true] at h3 ⊢
            exact h3
          · cases h3
      · cases h3
    · exact .inr ⟨hgd'.trans h3g, h3⟩
  · simp [VOp.makes] at h1
theorem eff_step {rd : Option Nat} {n : Nat} {md : Md} {ops : Array Oper} {ρ₀ : Rho} {h₀ : Heap} {w₀ : World} {pre rest : List DS} {x : DS} {st : St} {L : List DS} {D : List Nat} {ρ : Rho} {listed : Array Bool} {a : Act} {w : World} {Q : Exit → Act → World → Prop} {K : Act → World → Prop} {R : V → Heap → Prop}
    (hplan : planOk ops (pre ++ x :: rest) = true) (his : PlanIs P ops (pre ++ x :: rest)) (hfl : x.fl = false) (c : Cons P G n md ops ρ₀ h₀ w₀ pre (x :: rest) st L D ρ listed a w) (hr : x.i ∈ Region.ready .any ops listed)
    (hE : Eff P G ops x st.tmps (maskH st.heap (idsAt st.tmps x.loads) (idsAt st.tmps x.allocs)) R)
    (hkp : ∀ v h', R v h' → KeepOk G x.loads st.tmps st.heap (restore st.heap h' (idsAt st.tmps x.loads ++ idsAt st.tmps x.allocs)))
    (hK : ∀ v h' ρ' a' w', R v h' → Cons P G n md ops ρ₀ h₀ w₀ (pre ++ [x]) rest ⟨setd st.tmps x.vi.dst v, restore st.heap h' (idsAt st.tmps x.loads ++ idsAt st.tmps x.allocs)⟩ L D ρ' (listed.setIfInBounds x.i true) a' w' → K a' w') : wpOpIn (fw rd) 0 P ops Q x.i K a w := by
  obtain ⟨hnd, hlen, hlt⟩ := plan_nodup hplan
  obtain ⟨_, hdeps, hok⟩ := plan_parts hplan
  rw [hfl] at hok
  simp only [Bool.false_eq_true, if_false] at hok
  obtain ⟨hok1, hok2⟩ := okEff_spec hok
  have hxm : x ∈ pre ++ x :: rest := by simp
  have hxlt := hlt x hxm
  obtain ⟨oper, ho, hci⟩ := his x hxm
  have hxpre : ∀ y ∈ pre, y.i ≠ x.i := by
    intro y hy e
    simp only [List.map_append, List.map_cons] at hnd
    exact (List.nodup_append.1 hnd).2.2 y.i (List.mem_map.2 ⟨y, hy, rfl⟩) x.i (by simp) e
  have hxL : ∀ y ∈ L, y ≠ x := fun y hy e => hxpre y (c.sub y hy).1 (by rw [e])
  -- what is late doesn't come ahead of it
  have hlate : ∀ y ∈ L, (∀ d, x.vi.dst = some d → d ∉ y.vi.slots) ∧ ∀ d g o, y.vi = .op (some d) g o → (o.makes = true → d ∈ x.allocs) ∧ (o.makes = false → ∀ s, lookSlot o = some s → s ∈ x.loads ∨ ∃ agg n, o = .ld agg n (.t s) ∧ keepN n s ∈ x.loads) := by
    intro y hy
    obtain ⟨h1, h2, _⟩ := c.sub y hy
    rcases hok2 y h1 h2 with hb | hb
    · exfalso
      have := before_done (D := fun i => listed.getD i false = true) c.clo (x.i + 1) x.i (by omega) (mem_ready'.1 hr).2.2 y.i hb
      exact (listed_pre hplan c this).2 y hy rfl
    · exact hb
  have hdst : ∀ y ∈ L, ∀ d, y.vi.dst = some d → x.vi.dst ≠ some d := by
    intro y hy d hd
    obtain ⟨h1, h2, _⟩ := c.sub y hy
    obtain ⟨d', _, o, e1, _, _, e4⟩ := float_all hplan (List.mem_append_left _ h1) h2
    have : d' = d := by rw [e1] at hd; simpa [VI.dst] using hd
    subst this
    exact (e4 x hxm (hxL y hy).symm).1
  have hag : Agree (hide st.tmps D) st.tmps x.vi.as := agree_hide fun t ht => free_of_late hplan c hxm hr t (List.mem_append_left _ ht)
  have hgrd : wantV (hide st.tmps D) x.vi.grd = wantV st.tmps x.vi.grd := want_hide fun t ht => free_of_late hplan c hxm hr t (List.mem_append_right _ ht)
  have hdD : ∀ e, x.vi.dst = some e → e ∉ D := by
    intro e he hm
    obtain ⟨y, hy, hd⟩ := c.dst' e hm
    exact hdst y hy e hd he
  -- the masked heap
  have hsub : ∀ i b, Live (maskH st.heap (idsAt st.tmps x.loads) (idsAt st.tmps x.allocs)) i b → (place ρ i).isSome = true := by
    intro i b hl
    obtain ⟨h1, b1, h2, _⟩ := live_mask hl
    cases hp : place ρ i with
    | some p => rfl
    | none =>
      exfalso
      obtain ⟨y, hy, d, o, mk, cs, e1, e2, e3, e4⟩ := c.all i b1 h2 hp
      have hd := ((hlate y hy).2 d none o e1).1 e2
      refine h1 (List.mem_filterMap.2 ⟨d, hd, ?_⟩)
      rw [List.getD_eq_getElem?_getD, e4]
      exact mk_idOf e3 i
  have hM : Sim G ρ (maskH st.heap (idsAt st.tmps x.loads) (idsAt st.tmps x.allocs)) w := by
    refine c.sim.weaken (by simp [maskH, seen]) fun i b hl => ?_
    obtain ⟨_, b1, h2, h3, h4⟩ := live_mask hl
    exact ⟨b1, live_seen.2 ⟨h2, hsub i b hl⟩, h3⟩
  refine hE rd ρ (hide st.tmps D) a w K Q oper ho hci hgrd hag c.hid hM fun ρ' v h' r w' hRv hcr hs' hk' => ?_
  refine hK v h' ρ' _ w' hRv ?_
  have hlen' : st.heap.length ≤ h'.length := by have := hk'.len; simpa [maskH] using this
  obtain ⟨b1, b2⟩ := mask_back (h := st.heap) c.sim c.kps hsub hs' hk'
  have hun : ∀ i, i < st.heap.length → place ρ i = none → place ρ' i = none := fun i hi hp => hk'.unb i (by simpa [maskH] using hi) (by have := c.sim.rlen; simp [seen] at this; omega) hp
  have hagL : ∀ y ∈ L, Agree (setd st.tmps x.vi.dst v) st.tmps y.vi.as := fun y hy => agree_setd fun e he => (not_slots ((hlate y hy).1 e he)).1
  have hgL : ∀ y ∈ L, wantV (setd st.tmps x.vi.dst v) y.vi.grd = wantV st.tmps y.vi.grd := fun y hy => by
    cases hxd : x.vi.dst with
    | none => rfl
    | some e => exact want_set (not_slots ((hlate y hy).1 e hxd)).2
  have hdL : ∀ y ∈ L, ∀ d, y.vi.dst = some d → (setd st.tmps x.vi.dst v)[d]? = st.tmps[d]? := fun y hy d hd => setd_other (hdst y hy d hd)
  have hgetne : ∀ k, k ≠ x.i → (listed.setIfInBounds x.i true).getD k true = listed.getD k true := fun k hk => by
    rw [Array.getD_eq_getD_getElem?, Array.getElem?_setIfInBounds_ne (Ne.symm hk), ← Array.getD_eq_getD_getElem?]
  have hgetne' : ∀ k, k ≠ x.i → (listed.setIfInBounds x.i true).getD k false = listed.getD k false := fun k hk => by
    rw [Array.getD_eq_getD_getElem?, Array.getElem?_setIfInBounds_ne (Ne.symm hk), ← Array.getD_eq_getD_getElem?]
  have hgeteq : ∀ b, (listed.setIfInBounds x.i true).getD x.i b = true := fun b => by
    simp [c.lsz, hxlt]
  have mono : ∀ k, listed.getD k false = true → (listed.setIfInBounds x.i true).getD k false = true := fun k hk => by
    by_cases hkx : k = x.i
    · subst hkx; exact hgeteq false
    · rw [hgetne' k hkx]; exact hk
  refine ⟨by simp [c.lsz], fun i hi => ?_, c.nod, fun y hy => ?_, c.dst, c.dst', fun i hi j hj => ?_, hide_setd (c.hid.ext hk'.ext) hdD hcr, by rw [put_defers']; exact ⟨c.def_.1.keep hM hk', c.def_.2⟩, b1, b2, fun y hy z hz id hmy hmz => ?_, fun id b hl hp => ?_⟩
  · by_cases hix : i = x.i
    · subst hix
      rw [hgeteq]
      simp only [true_iff]
      exact ⟨⟨x, by simp, rfl⟩, fun y hy => hxpre y (c.sub y hy).1⟩
    · rw [hgetne i hix, c.lst i hi]
      constructor
      · rintro ⟨⟨y, hy, he⟩, h2⟩
        exact ⟨⟨y, by simp [hy], he⟩, h2⟩
      · rintro ⟨⟨y, hy, he⟩, h2⟩
        simp only [List.mem_append, List.mem_singleton] at hy
        rcases hy with hy | rfl
        · exact ⟨⟨y, hy, he⟩, h2⟩
        · exact absurd he.symm hix
  · obtain ⟨h1, h2, h3⟩ := c.sub y hy
    refine ⟨by simp [h1], h2, ?_⟩
    by_cases hk0 : ∃ d g agg n s, y.vi = .op (some d) g (.ld agg n (.t s)) ∧ keepN n s ∈ x.loads
    · obtain ⟨d, g, agg, n, s, hv, hm⟩ := hk0
      exact h3.keepK (hagL y hy) (hgL y hy) (hdL y hy) hv (hkp v h' hRv n s hm)
    refine h3.keep (hagL y hy) (hgL y hy) (hdL y hy) (fun i b hl hc => ?_) hun
    refine restore_in hl hlen' ?_
    obtain ⟨d, g, o, hv, hp⟩ := h3
    obtain ⟨g1, g2⟩ := hc d g o hv
    obtain ⟨k1, k2⟩ := (hlate y hy).2 d g o hv
    rcases hp with ⟨p1, p2, _⟩ | ⟨_, p1, _⟩
    · obtain ⟨s, e1, e2⟩ := look_idOf p2 p1 (g1 p1)
      have hm : o.makes = false := by cases o <;> simp_all [VOp.looks, VOp.makes]
      rcases k2 hm s e1 with k3 | ⟨agg, n, rfl, k3⟩
      · exact List.mem_append_left _ (List.mem_filterMap.2 ⟨s, k3, e2⟩)
      · exact absurd ⟨d, g, agg, n, s, hv, k3⟩ hk0
    · obtain ⟨mk, cs, e1, e2⟩ := g2 p1
      refine List.mem_append_right _ (List.mem_filterMap.2 ⟨d, k1 p1, ?_⟩)
      rw [List.getD_eq_getElem?_getD, e2]
      exact mk_idOf e1 i
  · by_cases hix : i = x.i
    · subst hix
      exact mono j ((mem_ready'.1 hr).2.2 j hj)
    · rw [hgetne' i hix] at hi
      exact mono j (c.clo i hi j hj)
  · have back : ∀ y ∈ L, Mkd ⟨setd st.tmps x.vi.dst v, restore st.heap h' (idsAt st.tmps x.loads ++ idsAt st.tmps x.allocs)⟩ y id → Mkd st y id := by
      rintro y hy ⟨e, o, mk, cs, h1, h2, h3⟩
      have := hagL y hy
      rw [h1] at this
      rw [exA_congr this] at h2
      have hd := hdL y hy e (by rw [h1]; rfl)
      refine ⟨e, o, mk, cs, h1, h2, ?_⟩
      rw [← hd]; exact h3
    exact c.dif y hy z hz id (back y hy hmy) (back z hz hmz)
  · rcases restore_live hl with ⟨_, hl'⟩ | ⟨_, hl'⟩
    · have hp0 : place ρ id = none := by
        cases hq : place ρ id with
        | none => rfl
        | some q => rw [hk'.ext id q hq] at hp; cases hp
      obtain ⟨y, hy, d, o, mk, cs, e1, e2, e3, e4⟩ := c.all id b hl' hp0
      have := hagL y hy
      rw [e1] at this
      refine ⟨y, hy, d, o, mk, cs, e1, e2, ?_, ?_⟩
      · rw [exA_congr this]; exact e3
      · have hd := hdL y hy d (by rw [e1]; rfl)
        rw [← e4]; exact hd
    · obtain ⟨p, hp'⟩ := hs'.plc id b hl'
      rw [hp'] at hp; cases hp
theorem drun_eff {f : FuncId} {n : Nat} {md : Md} {Q : V → Heap → Prop} {k : List TI} {x : DS} {rest : List DS} {st : St} (hfl : x.fl = false) {R : V → Heap → Prop}
    (hE : ∀ ops, Eff P G ops x st.tmps (maskH st.heap (idsAt st.tmps x.loads) (idsAt st.tmps x.allocs)) R)
    (hkp : ∀ v h', R v h' → KeepOk G x.loads st.tmps st.heap (restore st.heap h' (idsAt st.tmps x.loads ++ idsAt st.tmps x.allocs)))
    (hR : ∀ v h', R v h' → DRunM P G f n md Q k rest ⟨setd st.tmps x.vi.dst v, restore st.heap h' (idsAt st.tmps x.loads ++ idsAt st.tmps x.allocs)⟩) : DRunM P G f n md Q k (x :: rest) st := by
  intro todo ops pre hm his hplan ρ₀ h₀ w₀ hn L
  generalize hN : L.length = N
  induction N using Nat.strongRecOn generalizing L with
  | _ N ih =>
    intro D ρ listed a w c
    have e0 : N + (x :: rest).length = (N + rest.length) + 1 := by simp; omega
    rw [e0]
    refine ⟨fun e => absurd e (ready_some hplan c (.inr (by simp))), fun i hi => ?_⟩
    obtain ⟨z, rfl, hz | hz⟩ := ready_cases hplan c hi
    · refine late_step hplan his hn.1 c hz hi fun L' D' ρ' a' w' hlen c' => ?_
      have := ih L'.length (by omega) L' rfl D' ρ' _ a' w' c'
      have e1 : L'.length + (x :: rest).length = N + rest.length := by simp; omega
      rw [e1] at this; exact this
    · rcases List.mem_cons.1 hz with rfl | hz
      · refine eff_step hplan his hfl c hi (hE ops) hkp fun v h' ρ' a' w' hv c' => ?_
        have := hR v h' hv todo ops (pre ++ [z]) hm (by rw [← append_cons']; exact his) (by rw [← append_cons']; exact hplan) ρ₀ h₀ w₀ hn L D ρ' _ a' w' c'
        rw [hN] at this
        exact this
      · exfalso
        obtain ⟨_, _, hok⟩ := plan_parts hplan
        rw [hfl] at hok
        simp only [Bool.false_eq_true, if_false] at hok
        obtain ⟨j, hj, hcase⟩ := (okEff_spec hok).1 z hz
        obtain ⟨⟨y, hy, he⟩, _⟩ := listed_pre hplan c ((mem_ready'.1 hi).2.2 j hj)
        have hnd := (plan_nodup hplan).1
        simp only [List.map_append, List.map_cons] at hnd
        have hne := (List.nodup_append.1 hnd).2.2
        rcases hcase with rfl | ⟨u, hu, rfl⟩
        · exact hne y.i (List.mem_map.2 ⟨y, hy, rfl⟩) x.i (by simp) he
        · exact hne y.i (List.mem_map.2 ⟨y, hy, rfl⟩) u.i (by simp only [List.mem_cons, List.mem_map]; exact .inr ⟨u, hu, rfl⟩) he
end
section
mutual
def ren (g : Nat → Nat) : V → V
  | .unk => .unk
  | .bool b => .bool b
  | .int k n => .int k n
  | .str s => .str s
  | .nilp => .nilp
  | .ptr i o => .ptr (g i) o
  | .glob a o => .glob a o
  | .nils => .nils
  | .sl i o len cap => .sl (g i) o len cap
  | .fn f a c => .fn f (rens g a) (rens g c)
  | .yld i => .yld (g i)
  | .nilf => .nilf
  | .ifc t v => .ifc t (ren g v)
  | .nili => .nili
  | .agg cs => .agg (rens g cs)
  | .tup cs => .tup (rens g cs)
def rens (g : Nat → Nat) : List V → List V
  | [] => []
  | v :: r => ren g v :: rens g r
end
theorem rens_get (g : Nat → Nat) : ∀ (l : List V) (i : Nat), (rens g l)[i]? = (l[i]?).map (ren g)
  | [], i => by simp [rens]
  | v :: l, 0 => by simp [rens]
  | v :: l, i + 1 => by simp [rens, rens_get g l i]
theorem rens_length (g : Nat → Nat) : ∀ (l : List V), (rens g l).length = l.length
  | [] => rfl
  | _ :: l => by simp [rens, rens_length g l]
theorem ren_unk {g : Nat → Nat} {v : V} (h : ren g v = .unk) : v = .unk := by cases v <;> simp_all [ren]
mutual
theorem conc_ren {ρ ρ' : Rho} {g : Nat → Nat} (hg : ∀ i, place ρ' i = place ρ (g i)) : ∀ (v : V), conc ρ' v = conc ρ (ren g v)
  | .unk | .bool _ | .int .. | .str _ | .nilp | .glob .. | .nils | .nilf | .nili => by simp only [ren, conc]
  | .ptr i o => by simp only [ren, conc, hg i]
  | .sl i o len cap => by simp only [ren, conc, hg i]
  | .yld i => by simp only [ren, conc, hg i]
  | .fn f a c => by simp only [ren, conc, concs_ren hg a, concs_ren hg c]
  | .ifc t v => by simp only [ren, conc, conc_ren hg v]
  | .agg cs => by simp only [ren, conc, concs_ren hg cs]
  | .tup cs => by simp only [ren, conc, concs_ren hg cs]
theorem concs_ren {ρ ρ' : Rho} {g : Nat → Nat} (hg : ∀ i, place ρ' i = place ρ (g i)) : ∀ (l : List V), concs ρ' l = concs ρ (rens g l)
  | [] => rfl
  | v :: l => by simp only [rens, concs, conc_ren hg v, concs_ren hg l]
end
def gmap : List Nat → Nat → Nat → Nat
  | [], L, j => L + j
  | i :: _, _, 0 => i
  | _ :: μ, L, j + 1 => gmap μ L j
theorem gmap_lt {L : Nat} : ∀ {μ : List Nat} {j i : Nat}, μ[j]? = some i → gmap μ L j = i
  | [], j, i, h => by simp at h
  | k :: μ, 0, i, h => by simpa [gmap] using h
  | k :: μ, j + 1, i, h => by simp only [gmap]; exact gmap_lt (by simpa using h)
theorem gmap_ge {L : Nat} : ∀ {μ : List Nat} {j : Nat}, μ.length ≤ j → gmap μ L j = L + (j - μ.length)
  | [], j, h => by simp [gmap]
  | k :: μ, 0, h => by simp at h
  | k :: μ, j + 1, h => by simp only [gmap]; rw [gmap_ge (by simpa using h)]; simp
def sub (ρ : Rho) (μ : List Nat) : Rho := μ.map (place ρ)
theorem place_sub {ρ : Rho} {μ : List Nat} {j : Nat} : place (sub ρ μ) j = (μ[j]?).bind (place ρ) := by
  unfold sub
  rw [place, List.getElem?_map]
  cases μ[j]? <;> rfl
theorem place_out {ρ : Rho} {i : Nat} (h : ρ.length ≤ i) : place ρ i = none := by unfold place; rw [List.getElem?_eq_none h]; rfl
theorem place_sub_g {ρ : Rho} {μ : List Nat} (j : Nat) : place (sub ρ μ) j = place ρ (gmap μ ρ.length j) := by
  rw [place_sub]
  rcases Nat.lt_or_ge j μ.length with h | h
  · have : μ[j]? = some μ[j] := List.getElem?_eq_getElem h
    rw [this, gmap_lt this]; rfl
  · rw [List.getElem?_eq_none h, gmap_ge h, place_out (Nat.le_add_right _ _)]; rfl
def fit (g : Nat → Nat) : List V → List V → Prop
  | [], [] => True
  | v :: r, u :: s => (v = .unk ∨ u = ren g v) ∧ fit g r s
  | _, _ => False
theorem fit_get {g : Nat → Nat} : ∀ {l m : List V}, fit g l m → l.length = m.length ∧ ∀ (i : Nat) v, l[i]? = some v → v ≠ .unk → m[i]? = some (ren g v)
  | [], [], _ => ⟨rfl, fun i v h => by simp at h⟩
  | v :: r, u :: s, h => by
    obtain ⟨h1, h2⟩ := fit_get h.2
    refine ⟨by simp [h1], fun i x hx hne => ?_⟩
    cases i with
    | zero =>
      simp only [List.getElem?_cons_zero, Option.some.injEq] at hx ⊢
      subst hx
      rcases h.1 with h | h
      · exact absurd h hne
      · exact h
    | succ i => simp only [List.getElem?_cons_succ] at hx ⊢; exact h2 i x hx hne
  | [], _ :: _, h => h.elim
  | _ :: _, [], h => h.elim
def hfit (g : Nat → Nat) (h : Heap) : List Nat → Heap → Prop
  | [], [] => True
  | i :: μ, b :: h' => (match b with
      | none => True
      | some b1 => match h[i]? with
        | some (some b) => (b1.kind = b.kind ∨ b1.kind = .ro ∧ b.kind.m = true) ∧ fit g b1.cells b.cells
        | _ => False) ∧ hfit g h μ h'
  | _, _ => False
theorem hfit_get {g : Nat → Nat} {h : Heap} : ∀ {μ : List Nat} {h' : Heap}, hfit g h μ h' → μ.length = h'.length ∧ ∀ j b1, Live h' j b1 → ∃ i b, μ[j]? = some i ∧ Live h i b ∧ (b1.kind = b.kind ∨ b1.kind = .ro ∧ b.kind.m = true) ∧ fit g b1.cells b.cells
  | [], [], _ => ⟨rfl, fun j b h => by simp [Live] at h⟩
  | i :: μ, b :: h', hf => by
    obtain ⟨h1, h2⟩ := hfit_get hf.2
    refine ⟨by simp [h1], fun j b1 hl => ?_⟩
    cases j with
    | zero =>
      simp only [Live, List.getElem?_cons_zero, Option.some.injEq] at hl
      subst hl
      have := hf.1
      simp only at this
      split at this
      · rename_i b hb
        exact ⟨i, b, rfl, hb, this⟩
      · exact this.elim
    | succ j =>
      obtain ⟨i', b', e1, e2⟩ := h2 j b1 (by simpa [Live] using hl)
      exact ⟨i', b', by simpa using e1, e2⟩
  | [], _ :: _, h => h.elim
  | _ :: _, [], h => h.elim
def wrB : Option Blk → Bool
  | some ⟨.ro, _⟩ => false
  | some _ => true
  | none => false
theorem wrB_iff {b : Blk} : wrB (some b) = true ↔ b.kind ≠ .ro := by
  obtain ⟨k, c⟩ := b
  cases k <;> simp [wrB]
def uniq (μ : List Nat) (h' : Heap) : Prop := (μ.zip (h'.map wrB)).Pairwise fun x y => (x.2 = true ∨ y.2 = true) → x.1 ≠ y.1
theorem uniq_get {μ : List Nat} {h' : Heap} (hu : uniq μ h') {j k i i' : Nat} {b : Blk} {b' : Option Blk} (hj : μ[j]? = some i) (hk : μ[k]? = some i') (hne : j ≠ k) (hb : Live h' j b) (hb' : h'[k]? = some b') (hw : b.kind ≠ .ro) : i ≠ i' := by
  have get : ∀ (j i : Nat) (b : Option Blk), μ[j]? = some i → h'[j]? = some b → (μ.zip (h'.map wrB))[j]? = some (i, wrB b) := by
    intro j i b h1 h2
    rw [List.getElem?_zip_eq_some]
    exact ⟨h1, by rw [List.getElem?_map, h2]; rfl⟩
  have e1 := get j i _ hj hb
  have e2 := get k i' b' hk hb'
  have hp := List.pairwise_iff_getElem.1 hu
  obtain ⟨l1, g1⟩ := List.getElem?_eq_some_iff.1 e1
  obtain ⟨l2, g2⟩ := List.getElem?_eq_some_iff.1 e2
  rcases Nat.lt_or_gt_of_ne hne with hlt | hlt
  · have := hp j k l1 l2 hlt
    rw [g1, g2] at this
    exact this (.inl (wrB_iff.2 hw))
  · have := hp k j l2 l1 hlt
    rw [g1, g2] at this
    exact fun e => this (.inr (wrB_iff.2 hw)) e.symm
theorem sub_sim {ρ : Rho} {h : Heap} {w : World} (s : Sim G ρ h w) {μ : List Nat} {h' : Heap} (hf : hfit (gmap μ h.length) h μ h') (hu : uniq μ h') : Sim G (sub ρ μ) h' w := by
  obtain ⟨hlen, hget⟩ := hfit_get hf
  have hpl : ∀ {j i p}, μ[j]? = some i → place (sub ρ μ) j = some p → place ρ i = some p := by
    intro j i p h1 h2
    rw [place_sub, h1] at h2; exact h2
  exact {
    rlen := by simp [sub, hlen]
    plc := fun j b hl => by
      obtain ⟨i, b1, h1, h2, _⟩ := hget j b hl
      obtain ⟨p, hp⟩ := s.plc i b1 h2
      exact ⟨p, by rw [place_sub, h1]; exact hp⟩
    cells := fun j b p hl hp hm t v hv hne => by
      obtain ⟨i, b1, h1, h2, h3, h4⟩ := hget j b hl
      have hm1 : b1.kind.m = true := by
        rcases h3 with h3 | h3
        · rw [← h3]; exact hm
        · exact h3.2
      obtain ⟨r, g1, g2⟩ := s.cells i b1 p h2 (hpl h1 hp) hm1 t _ ((fit_get h4).2 t v hv hne) (fun e => hne (ren_unk e))
      refine ⟨r, ?_, g2⟩
      rw [conc_ren (ρ := ρ) (g := gmap μ ρ.length) place_sub_g, s.rlen]; exact g1
    blk := fun j b p hl hp => by
      obtain ⟨i, b1, h1, h2, _, h4⟩ := hget j b hl
      have := s.blk i b1 p h2 (hpl h1 hp)
      rw [(fit_get h4).1]; exact this
    wr := fun j b p hl hp hk => by
      obtain ⟨i, b1, h1, h2, h3, _⟩ := hget j b hl
      refine s.wr i b1 p h2 (hpl h1 hp) ?_
      rcases h3 with h3 | h3
      · rw [← h3]; exact hk
      · rw [h3.1] at hk; cases hk
    disj := fun j k bj bk pj pk hne hlj hlk hpj hpk hkj => by
      obtain ⟨i, b1, h1, h2, h3, _⟩ := hget j bj hlj
      obtain ⟨i', b1', h1', h2', h3', _⟩ := hget k bk hlk
      have := uniq_get hu h1 h1' hne hlj hlk hkj
      refine s.disj i i' b1 b1' pj pk this h2 h2' (hpl h1 hpj) (hpl h1' hpk) ?_
      rcases h3 with h3 | h3
      · rw [← h3]; exact hkj
      · exact absurd h3.1 hkj
    globs := s.globs
    gsz := s.gsz
    lp := fun j b p r hl hp hk => by
      obtain ⟨i, b1, h1, h2, h3, h4⟩ := hget j b hl
      have hk1 : b1.kind = .loop r := by
        rcases h3 with h3 | h3
        · rw [← h3]; exact hk
        · rw [h3.1] at hk; cases hk
      obtain ⟨e1, e2, e3⟩ := s.lp i b1 p r h2 (hpl h1 hp) hk1
      refine ⟨e1, e2, by rw [(fit_get h4).1]; exact e3.1, fun t v hv hne => ?_⟩
      obtain ⟨x, g1, g2⟩ := e3.2 t _ ((fit_get h4).2 t v hv hne) (fun e => hne (ren_unk e))
      refine ⟨x, ?_, g2⟩
      rw [conc_ren (ρ := ρ) (g := gmap μ ρ.length) place_sub_g, s.rlen]; exact g1 }
theorem sub_keeps {n : Nat} {ρ₀ ρ : Rho} {h₀ h h' : Heap} {w₀ w : World} (μ : List Nat) (h1 : μ.take n = List.range n) (h2 : ∀ i ∈ μ.drop n, n ≤ i) (hf : hfit (gmap μ h.length) h μ h') (hn : h₀.length = n ∧ ρ₀.length = n) (hk : Keeps ρ₀ h₀ w₀ ρ h w) : Keeps ρ₀ h₀ w₀ (sub ρ μ) h' w := by
  obtain ⟨hlen, hget⟩ := hfit_get hf
  have hμ : ∀ i, i < n → μ[i]? = some i := by
    intro i hi
    have : (μ.take n)[i]? = some i := by rw [h1]; simp [hi]
    rw [List.getElem?_take] at this
    simpa [hi] using this
  have hnl : n ≤ μ.length := by
    cases n with
    | zero => omega
    | succ n => have := (List.getElem?_eq_some_iff.1 (hμ n (by omega))).1; omega
  have hpl : ∀ {j i p}, μ[j]? = some i → place (sub ρ μ) j = some p → place ρ i = some p := by
    intro j i p h1 h2
    rw [place_sub, h1] at h2; exact h2
  have wrs : ∀ b, WR (sub ρ μ) h' b → WR ρ h b := by
    rintro b ⟨j, bj, p, hl, hp, hkj, he⟩
    obtain ⟨i, b1, g1, g2, g3, _⟩ := hget j bj hl
    refine ⟨i, b1, p, g2, hpl g1 hp, ?_, he⟩
    rcases g3 with g3 | g3
    · rw [← g3]; exact hkj
    · exact absurd g3.1 hkj
  exact {
      tape := hk.tape, os := hk.os, output := hk.output, size := hk.size, same := hk.same
      own := fun b hb hw => hk.own b hb (wrs b hw)
      fresh := fun j b p hj hl hp => by
        obtain ⟨i, b1, g1, g2, _⟩ := hget j b hl
        refine hk.fresh i b1 p ?_ g2 (hpl g1 hp)
        rw [hn.1] at hj ⊢
        refine h2 i ?_
        have : (μ.drop n)[j - n]? = some i := by rw [List.getElem?_drop, show n + (j - n) = j by omega]; exact g1
        exact List.mem_of_getElem? this
      ext := fun i p hp => by
        have hi : i < n := by
          rcases Nat.lt_or_ge i n with hi | hi
          · exact hi
          · rw [place_out (by rw [hn.2]; exact hi)] at hp; cases hp
        rw [place_sub, hμ i hi]
        exact hk.ext i p hp
      len := by rw [hn.1]; simp [← hlen, hnl]
      dead := fun i hi => by
        have hin : i < n := by rw [← hn.1]; exact (List.getElem?_eq_some_iff.1 hi).1
        have hd' := hk.dead i hi
        have hlt : i < h'.length := by rw [← hlen]; omega
        have hg : h'[i]? = some h'[i] := List.getElem?_eq_getElem hlt
        cases hx : h'[i] with
        | none => rw [hg, hx]
        | some b =>
          rw [hx] at hg
          obtain ⟨i', b1, g1, g2, _⟩ := hget i b hg
          rw [hμ i hin] at g1; cases g1
          unfold Live at g2; rw [hd'] at g2; cases g2
      unb := fun i h1' h2' hp => by
        rw [place_sub, hμ i (by rw [← hn.1]; exact h1')]
        exact hk.unb i h1' h2' hp
      rle := by rw [hn.2]; simp [sub, hnl] }
theorem run_rename {f : FuncId} {n : Nat} {md : Md} {Q : V → Heap → Prop} {k : List TI} {st st' : St} (μ : List Nat) (h1 : μ.take n = List.range n) (h2 : ∀ i ∈ μ.drop n, n ≤ i) (hf : hfit (gmap μ st.heap.length) st.heap μ st'.heap) (hu : uniq μ st'.heap)
    (ht : fit (gmap μ st.heap.length) st'.tmps st.tmps) (h : RunM P G f n md Q (k, st')) : RunM P G f n md Q (k, st) := by
  intro ρ₀ h₀ w₀ ρ a w hn hk hsim htr hd
  obtain ⟨hlen, hget⟩ := hfit_get hf
  have hs' := sub_sim hsim hf hu
  refine h ρ₀ h₀ w₀ (sub ρ μ) a w hn (sub_keeps μ h1 h2 hf hn hk) hs' ⟨?_, ?_⟩ hd
  · have := (fit_get ht).1
    rw [← htr.1, ← this]
  · intro t v hv hne
    obtain ⟨r, g1, g2⟩ := htr.2 t _ ((fit_get ht).2 t v hv hne) (fun e => hne (ren_unk e))
    refine ⟨r, ?_, g2⟩
    rw [conc_ren (ρ := ρ) (g := gmap μ ρ.length) place_sub_g, hsim.rlen]; exact g1
theorem rq_rename {n : Nat} {ρ₀ : Rho} {h₀ : Heap} {w₀ : World} {H h' : Heap} {v : V} {Q : V → Heap → Prop} (hn : h₀.length = n ∧ ρ₀.length = n) (μ : List Nat) (h1 : μ.take n = List.range n) (h2 : ∀ i ∈ μ.drop n, n ≤ i) (hf : hfit (gmap μ H.length) H μ h') (hu : uniq μ h') (hq : Q v h')
    {e : Ending} {w : World} (hr : RQ G ρ₀ h₀ w₀ (fun u h => u = ren (gmap μ H.length) v ∧ h = H) e w) : RQ G ρ₀ h₀ w₀ Q e w := by
  obtain ⟨ρ, u, h, r, e1, e2, e3, e4, rfl, rfl⟩ := hr
  refine ⟨sub ρ μ, v, h', r, e1, ?_, sub_sim e3 hf hu, sub_keeps μ h1 h2 hf hn e4, hq⟩
  rw [conc_ren (ρ := ρ) (g := gmap μ ρ.length) place_sub_g, e3.rlen]; exact e2
theorem run_ret_drop {f : FuncId} {n : Nat} {Q : V → Heap → Prop} {fn : Func} (hf : P.funcs[f]? = some fn) {ys : List RV} (hc : cRVs P fn.results.toList = some ys) {k : List TI} {st : St} (μ : List Nat) (v : V) (h' : Heap) (h1 : μ.take n = List.range n) (h2 : ∀ i ∈ μ.drop n, n ≤ i)
    (hfit : hfit (gmap μ st.heap.length) st.heap μ h') (hu : uniq μ h') (hv : (rvs G st.tmps st.heap ys).map one = some (ren (gmap μ st.heap.length) v)) (hq : Q v h') : Run P G f n Q (.c .ret :: k, st) := by
  intro ρ₀ h₀ w₀ ρ a w hn hk hsim ht hd
  simp only [Option.map_eq_some_iff] at hv
  obtain ⟨l, hl, hv⟩ := hv
  have := run_ret (P := P) (G := G) (f := f) (n := n) (Q := fun u h => u = ren (gmap μ st.heap.length) v ∧ h = st.heap) hf hc (k := k) hl ⟨hv, rfl⟩ ρ₀ h₀ w₀ ρ a w hn hk hsim ht hd
  simp only [Stmt] at this ⊢
  intro todo hm b cs hb hk' hr
  obtain ⟨e, w2, fr, hR, h3, h4, h5⟩ := this todo hm b cs hb hk' hr
  exact ⟨e, w2, fr, rq_rename hn μ h1 h2 hfit hu hq hR, h3, h4, h5⟩
end
end Go.Vs
