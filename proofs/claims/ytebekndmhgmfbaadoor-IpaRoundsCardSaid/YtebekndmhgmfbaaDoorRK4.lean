/- Text 4 of 10 of this claim: a machine of plain values beside the model, what the functions of the program and of the reference answer over it, and last the row and its card. -/
import Derived.Test.YtebekndmhgmfbaaDoorRK3
set_option linter.unusedVariables false
set_option linter.unusedSimpArgs false
namespace Go.Vs
variable {P : Program} {G : Nat → List V}
theorem exit_none {id : Nat} : ∀ {k : List TI} {todo : List Item}, MatchL P k todo → exitV id k = none → exitTo id todo = none
  | [], todo, hm, _ => by
    cases todo with
    | nil => rfl
    | cons y r => exact hm.elim
  | x :: k, todo, hm, h => by
    obtain ⟨y, r, rfl, h1, h2⟩ := matchL_cons hm
    cases x <;> cases y <;> simp only [MatchI] at h1 <;> try (exact h1.elim)
    case b.inBlock i j =>
      subst h1
      simp only [exitV] at h
      split at h
      · cases h
      · rename_i hne
        simp only [exitTo]
        rw [if_neg (by simpa using hne)]
        exact exit_none h2 h
    all_goals
      simp only [exitV] at h
      simp only [exitTo]
      exact exit_none h2 h
theorem loop_put {ρ : Rho} {h : Heap} {w : World} (s : Sim G ρ h w) {i : Nat} {r : Loop} {tm : List V} (hl : Live h i ⟨.loop r, tm⟩) {p : Pl} (hp : place ρ i = some p) (r' : Loop) (ht : TRel ρ tm r'.tmps) :
    Sim G ρ (h.set i (some ⟨.loop r', tm⟩)) (w.putObj p.block (.loop r')) ∧ Keeps ρ h w ρ (h.set i (some ⟨.loop r', tm⟩)) (w.putObj p.block (.loop r')) := by
  obtain ⟨hG, hw, _⟩ := s.lp i _ p r hl hp rfl
  have hlt : p.block < w.heap.size := (Array.getElem?_eq_some_iff.1 hw).1
  have hne : ∀ {j b q}, j ≠ i → Live h j b → place ρ j = some q → q.block ≠ p.block := fun hj hlj hq => (s.disj i _ _ _ p _ (Ne.symm hj) hl hlj hp hq (by simp)).symm
  have hcell : ∀ (b o : Nat), b ≠ p.block → (w.putObj p.block (.loop r')).cell? ⟨b, o, none⟩ = w.cell? ⟨b, o, none⟩ := fun b o hb => by
    simp only [World.cell?, World.putObj_heap_other hb]
  have hfro : ∀ (b o : Nat), b ≠ p.block → (w.putObj p.block (.loop r')).frozen? ⟨b, o, none⟩ = w.frozen? ⟨b, o, none⟩ := fun b o hb => by
    simp only [World.frozen?, World.putObj_heap_other hb]
  refine ⟨⟨by simp [s.rlen], fun j b hj => ?_, fun j b q hj hq hm t v hv hu => ?_, fun j b q hj hq => ?_, fun j b q hj hq hk => ?_, fun j k bj bk pj pk hjk hlj hlk hpj hpk hk => ?_, fun g o v hv hu => ?_, fun g hg => s.gsz g (by simpa using hg), fun j b q x hj hq hk => ?_⟩, ?_⟩
  · rcases live_set j b hj with ⟨rfl, _⟩ | ⟨_, hj'⟩
    · exact ⟨p, hp⟩
    · exact s.plc j b hj'
  · rcases live_set j b hj with ⟨rfl, hb⟩ | ⟨hji, hj'⟩
    · cases hb; cases hm
    · obtain ⟨x, e1, e2⟩ := s.cells j b q hj' hq hm t v hv hu
      exact ⟨x, e1, by rw [hcell _ _ (hne hji hj' hq)]; exact e2⟩
  · rw [World.putObj_size]
    rcases live_set j b hj with ⟨rfl, hb⟩ | ⟨hji, hj'⟩
    · cases hb
      have := s.blk j _ q hl hq
      exact this
    · exact s.blk j b q hj' hq
  · rcases live_set j b hj with ⟨rfl, hb⟩ | ⟨hji, hj'⟩
    · cases hb; cases hk
    · obtain ⟨g1, g2, c, e, fr, g3, g4, g5⟩ := s.wr j b q hj' hq hk
      exact ⟨g1, g2, c, e, fr, by rw [World.putObj_heap_other (hne hji hj' hq)]; exact g3, g4, fun t ht => by rw [hfro _ _ (hne hji hj' hq)]; exact g5 t ht⟩
  · have e1 : ∃ b', Live h j b' ∧ b'.kind ≠ .ro := by
      rcases live_set j bj hlj with ⟨rfl, hb⟩ | ⟨_, hj'⟩
      · exact ⟨_, hl, by simp⟩
      · exact ⟨bj, hj', hk⟩
    have e2 : ∃ b', Live h k b' := by
      rcases live_set k bk hlk with ⟨rfl, hb⟩ | ⟨_, hj'⟩
      · exact ⟨_, hl⟩
      · exact ⟨bk, hj'⟩
    obtain ⟨b1, l1, k1⟩ := e1
    obtain ⟨b2, l2⟩ := e2
    exact s.disj j k b1 b2 pj pk hjk l1 l2 hpj hpk k1
  · obtain ⟨x, e1, e2⟩ := s.globs g o v hv hu
    have : g ≠ p.block := fun e => by rw [e, hG] at hv; simp at hv
    exact ⟨x, e1, by rw [hcell _ _ this]; exact e2⟩
  · rcases live_set j b hj with ⟨rfl, hb⟩ | ⟨hji, hj'⟩
    · cases hb
      cases hk
      rw [hp] at hq; cases hq
      exact ⟨hG, World.putObj_heap_same hlt, ht⟩
    · obtain ⟨g1, g2, g3⟩ := s.lp j b q x hj' hq hk
      exact ⟨g1, by rw [World.putObj_heap_other (hne hji hj' hq)]; exact g2, g3⟩
  · exact {
      tape := rfl, os := rfl, output := rfl, size := by simp
      same := fun b hb hw' => World.putObj_heap_other fun e => hw' ⟨i, _, p, hl, hp, by simp, e.symm⟩
      own := by
        rintro b hb ⟨j, bj, q, hlj, hq, hkj, he⟩
        rcases live_set j bj hlj with ⟨rfl, hb'⟩ | ⟨_, hl'⟩
        · exact ⟨j, _, q, hl, hq, by simp, he⟩
        · exact ⟨j, bj, q, hl', hq, hkj, he⟩
      fresh := fun j b q hj hlj _ => absurd hlj.lt (by simp; omega)
      ext := Ext.refl _
      len := by simp
      dead := fun j hj => by
        rw [List.getElem?_set]
        split
        · rename_i e; subst e; unfold Live at hl; rw [hl] at hj; cases hj
        · exact hj
      unb := fun _ _ _ h => h
      rle := Nat.le_refl _ }
theorem loop_new {ρ : Rho} {h : Heap} {w : World} (s : Sim G ρ h w) (r : Loop) (tm : List V) (ht : TRel ρ tm r.tmps) :
    Sim G (ρ ++ [some ⟨w.heap.size + 1, 0, tm.length⟩]) (h ++ [some ⟨.loop r, tm⟩]) ((w.alloc (.deferred (some []))).alloc (.loop r)) ∧
      Keeps ρ h w (ρ ++ [some ⟨w.heap.size + 1, 0, tm.length⟩]) (h ++ [some ⟨.loop r, tm⟩]) ((w.alloc (.deferred (some []))).alloc (.loop r)) := by
  have hG : G (w.heap.size + 1) = [] := s.gsz _ (by omega)
  have hheap : ((w.alloc (.deferred (some []))).alloc (.loop r)).heap = (w.heap.push (.deferred (some []))).push (.loop r) := rfl
  have hold : ∀ b, b < w.heap.size → ((w.alloc (.deferred (some []))).alloc (.loop r)).heap[b]? = w.heap[b]? := fun b hb => by
    rw [hheap, Array.getElem?_push, if_neg (by simp; omega), Array.getElem?_push, if_neg (by omega)]
  have hnew : ((w.alloc (.deferred (some []))).alloc (.loop r)).heap[w.heap.size + 1]? = some (.loop r) := by
    rw [hheap, Array.getElem?_push, if_pos (by simp)]
  have hsize : ((w.alloc (.deferred (some []))).alloc (.loop r)).heap.size = w.heap.size + 2 := by rw [hheap]; simp
  have hext := Ext.append ρ [some ⟨w.heap.size + 1, 0, tm.length⟩]
  have oldp : ∀ {i : Nat} {b : Blk} {p : Pl}, Live h i b → place (ρ ++ [some ⟨w.heap.size + 1, 0, tm.length⟩]) i = some p → place ρ i = some p := by
    intro i b p hl hp
    have := hl.lt
    rcases place_append hp with ⟨_, h'⟩ | ⟨h', _⟩
    · exact h'
    · rw [s.rlen] at h'; omega
  have newp : ∀ {p : Pl}, place (ρ ++ [some ⟨w.heap.size + 1, 0, tm.length⟩]) h.length = some p → p = ⟨w.heap.size + 1, 0, tm.length⟩ := by
    intro p hp
    rw [← s.rlen, place_new] at hp
    cases hp; rfl
  refine ⟨⟨by simp [s.rlen], fun i b hl => ?_, fun i b p hl hp hm j v hv hu => ?_, fun i b p hl hp => ?_, fun i b p hl hp hk => ?_, fun i j bi bj pi pj hne hli hlj hpi hpj hki => ?_, fun g o v hv hu => ?_, fun g hg => s.gsz g (by rw [hsize] at hg; omega), fun i b p x hl hp hk => ?_⟩, ?_⟩
  · rcases live_append hl with ⟨_, hl'⟩ | ⟨rfl, _⟩
    · obtain ⟨p, hp⟩ := s.plc i b hl'; exact ⟨p, hext i p hp⟩
    · exact ⟨_, by rw [← s.rlen]; exact place_new _ _⟩
  · rcases live_append hl with ⟨_, hl'⟩ | ⟨rfl, hb⟩
    · have hp' := oldp hl' hp
      obtain ⟨x, h1, h2⟩ := s.cells i b p hl' hp' hm j v hv hu
      exact ⟨x, conc_ext hext v x h1, by rw [cells_of_same (hold _ (s.blk i b p hl' hp').1)]; exact h2⟩
    · cases hb; cases hm
  · rw [hsize]
    rcases live_append hl with ⟨_, hl'⟩ | ⟨rfl, hb⟩
    · have := s.blk i b p hl' (oldp hl' hp); exact ⟨by omega, this.2⟩
    · cases hb; rw [newp hp]; exact ⟨by simp, Nat.le_refl _⟩
  · rcases live_append hl with ⟨_, hl'⟩ | ⟨rfl, hb⟩
    · obtain ⟨g1, g2, c2, e2, f2, g3, g4, g5⟩ := s.wr i b p hl' (oldp hl' hp) hk
      have hs := hold _ (s.blk i b p hl' (oldp hl' hp)).1
      exact ⟨g1, g2, c2, e2, f2, by rw [hs]; exact g3, g4, fun j hj => by rw [frozen_of_same hs]; exact g5 j hj⟩
    · cases hb; cases hk
  · rcases live_append hli with ⟨_, hli'⟩ | ⟨rfl, hbi⟩ <;> rcases live_append hlj with ⟨_, hlj'⟩ | ⟨rfl, hbj⟩
    · exact s.disj i j bi bj pi pj hne hli' hlj' (oldp hli' hpi) (oldp hlj' hpj) hki
    · have := (s.blk i bi pi hli' (oldp hli' hpi)).1
      rw [newp hpj]; simp; omega
    · have := (s.blk j bj pj hlj' (oldp hlj' hpj)).1
      rw [newp hpi]; simp; omega
    · exact absurd rfl hne
  · obtain ⟨x, h1, h2⟩ := s.globs g o v hv hu
    refine ⟨x, h1, ?_⟩
    have : g < w.heap.size := by
      rcases Nat.lt_or_ge g w.heap.size with h | h
      · exact h
      · rw [s.gsz g h] at hv; simp at hv
    rw [cells_of_same (hold _ this)]; exact h2
  · rcases live_append hl with ⟨_, hl'⟩ | ⟨rfl, hb⟩
    · obtain ⟨g1, g2, g3⟩ := s.lp i b p x hl' (oldp hl' hp) hk
      exact ⟨g1, by rw [hold _ (s.blk i b p hl' (oldp hl' hp)).1]; exact g2, g3.ext hext⟩
    · cases hb; cases hk
      rw [newp hp]
      exact ⟨hG, hnew, ht.ext hext⟩
  · exact {
      tape := rfl, os := rfl, output := rfl, size := by rw [hsize]; omega
      same := fun b hb _ => hold b hb
      own := by
        rintro b hb ⟨i, bi, q, hl, hq, hk, he⟩
        rcases live_append hl with ⟨_, hl'⟩ | ⟨rfl, hbi⟩
        · exact ⟨i, bi, q, hl', oldp hl' hq, hk, he⟩
        · rw [newp hq] at he; simp at he; omega
      fresh := fun i b p hi hl hp => by
        rcases live_append hl with ⟨h1, _⟩ | ⟨rfl, hb⟩
        · omega
        · rw [newp hp]; exact .inl (by simp)
      ext := hext
      len := by simp
      dead := fun j hj => by
        have hj' : j < h.length := (List.getElem?_eq_some_iff.1 hj).1
        rw [List.getElem?_append_left hj']; exact hj
      unb := fun i _ hi hp => unb_append hi hp
      rle := by simp }
def YCall (P : Program) (G : Nat → List V) (i : Nat) (args : List V) (h : Heap) (Q : V → Heap → Prop) : Prop :=
  ∀ ρ w rargs p, Sim G ρ h w → place ρ i = some p → concs ρ args = some rargs →
    ∃ f tmps assign body, (Instr.yield p.block rargs.toArray).run P w = .ok (.round p.block f tmps assign body) w ∧ RoundIn (fw none) 0 P p.block f tmps assign body w (RQ G ρ h w Q)
theorem YCall.mono {i : Nat} {args : List V} {h : Heap} {Q Q' : V → Heap → Prop} (hc : YCall P G i args h Q) (hq : ∀ v h, Q v h → Q' v h) : YCall P G i args h Q' := by
  intro ρ w rargs p hs hp ha
  obtain ⟨f, t, x, y, h1, h2⟩ := hc ρ w rargs p hs hp ha
  exact ⟨f, t, x, y, h1, h2.mono fun e w' hr => hr.mono hq⟩
theorem yield_sound {ρ : Rho} {tm : List V} {re : Operand → Value} (he : EvRel ρ tm re) {c : Call} {x : A} {xs : List A} (hc : cCal c.callee = some (.val x)) (hx : cAs c.args.toList = some xs) {i : Nat} (hi : ev tm x = .yld i) {args : List V} (ha : evs tm xs = some args) {p : Pl} (hp : place ρ i = some p) (ty : TypeId) (w : World) :
    ∃ rargs, concs ρ args = some rargs ∧ (do let d ← resolve re c ty; invoke d.target d.args : Sem Next).run P w = (Instr.yield p.block rargs.toArray).run P w := by
  obtain ⟨callee, xs', ts⟩ := c
  simp only at hc hx
  refine ⟨xs'.toList.map re, opAs he hx ha, ?_⟩
  have key : ∀ (y : Operand), cA y = some x → callee = .value y → (do let d ← resolve re ⟨callee, xs', ts⟩ ty; invoke d.target d.args : Sem Next).run P w = (Instr.yield p.block (xs'.toList.map re).toArray).run P w := by
    rintro y hy rfl
    have hX := opU he hy hi (by simp)
    simp only [conc, Option.map_eq_some_iff] at hX
    obtain ⟨q, hq, hr⟩ := hX
    rw [hp] at hq; cases hq
    simp only [resolve, ← hr, Deferred.ofValue, Sem.run_bind, Sem.run_pure, Result.andThen_ok, invoke]
    congr 2
    apply Array.ext'
    simp
  cases callee with
  | builtin b => simp [cCal] at hc
  | invoke y m => simp only [cCal, Option.map_eq_some_iff] at hc; obtain ⟨_, _, h⟩ := hc; cases h
  | value y =>
    cases y with
    | func g => simp [cCal] at hc
    | tmp t => simp only [cCal, Option.map_eq_some_iff] at hc; obtain ⟨a, h1, h2⟩ := hc; cases h2; exact key _ h1 rfl
    | const t => simp only [cCal, Option.map_eq_some_iff] at hc; obtain ⟨a, h1, h2⟩ := hc; cases h2; exact key _ h1 rfl
    | global t => simp only [cCal, Option.map_eq_some_iff] at hc; obtain ⟨a, h1, h2⟩ := hc; cases h2; exact key _ h1 rfl
theorem run_yield' {f : FuncId} {n : Nat} {md : Md} {Q : V → Heap → Prop} {d : Option Nat} {g : Option (Nat × Bool)} {x : A} {xs : List A} {l : List VI} {k : List TI} {st : St} (i : Nat) (hg : wantV st.tmps g = some true) (hx : ev st.tmps x = .yld i) (b : Blk) (hlive : st.heap[i]? = some (some b))
    {args : List V} (hargs : evs st.tmps xs = some args) (h : YCall P G i args st.heap fun v h' => RunM P G f n md Q (.r l :: k, ⟨setd st.tmps d v, h'⟩)) : RunM P G f n md Q (.r (.call d g (.val x) xs :: l) :: k, st) := by
  intro ρ₀ h₀ w₀ ρ a w hn hk hsim ht hd
  simp only [Stmt]
  intro todo ops idxs hm hr
  cases idxs with
  | nil => exact hr.elim
  | cons j js =>
    obtain ⟨⟨o, ho, hc⟩, hr'⟩ := hr
    obtain ⟨c1, c2, c, c3, c4, c5⟩ := cI_call hc
    obtain ⟨p, hp⟩ := hsim.plc i b hlive
    obtain ⟨rargs, e1, e2⟩ := yield_sound (P := P) ht.evRel c4 c5 hx hargs hp o.type w
    have hrun : (execOp a.eval o).run P w = (Instr.yield p.block rargs.toArray).run P w := by
      rw [← e2]
      obtain ⟨dst, op, ty, pos, after, guard⟩ := o
      simp only at c3
      subst c3
      rfl
    simp only [wpOpsIn, ho]
    rw [if_pos (guard_want ht c1 hg)]
    refine ⟨fun _ _ => trivial, ?_⟩
    rw [Oper.semAt_eq _ _ _ (fun c' e => by rw [c3] at e; cases e), hrun]
    obtain ⟨f', t', x', y', g1, g2⟩ := h ρ w rargs p hsim hp e1
    rw [g1]
    refine ⟨fun h => (by cases h), RoundIn.mono (R := RQ G ρ st.heap w fun v h' => RunM P G f n md Q (.r l :: k, ⟨setd st.tmps d v, h'⟩)) g2 fun e w' he => ?_⟩
    obtain ⟨ρ', u, h', r, rfl, h2, h3, h4, h5⟩ := he
    show wpOpsIn _ _ _ _ _ _ _ _
    rw [c2]
    exact h5 ρ₀ h₀ w₀ ρ' (a.put d r) w' hn (Keeps.trans hsim.plc hk h4) h3 (TRel.setd (ht.ext h4.ext) d h2) (by rw [put_defers']; exact hd.keep hsim h4) todo ops js hm hr'
def putps (tm : List V) : List Nat → List V → List V
  | p :: ps, v :: vs => putps (tm.set p v) ps vs
  | _, _ => tm
theorem putps_rel {ρ : Rho} : ∀ {ps : List Nat} {vs : List V} {rs : List Value} {tm : List V} {t : Array Value}, TRel ρ tm t → concs ρ vs = some rs → TRel ρ (putps tm ps vs) ((ps.zip rs).foldl (fun t x => t.setIfInBounds x.1 x.2) t)
  | [], vs, rs, tm, t, h, _ => by simpa [putps] using h
  | p :: ps, [], rs, tm, t, h, hc => by
    simp only [concs, Option.some.injEq] at hc; subst hc
    simpa [putps] using h
  | p :: ps, v :: vs, rs, tm, t, h, hc => by
    obtain ⟨x, y, h1, h2, rfl⟩ := concs_cons.1 hc
    simp only [putps, List.zip_cons_cons, List.foldl_cons]
    exact putps_rel (h.set p h1) h2
theorem ycall_of {i : Nat} {args : List V} {h : Heap} {Q : V → Heap → Prop} {r : Loop} {tm : List V} (hb : h[i]? = some (some ⟨.loop r, tm⟩)) (hlen : args.length = r.params.size) {va vb : VC} (h1 : cCode P r.assign = some va) (h2 : cCode P r.body = some vb)
    (hrun : RunM P G r.fn h.length ⟨some i⟩ Q ([.c va, .beg, .c vb], ⟨putps tm r.params.toList args, h⟩)) : YCall P G i args h Q := by
  intro ρ w rargs p hs hp hc
  obtain ⟨_, e1, e2⟩ := hs.lp i _ p r hb hp rfl
  have hl := concs_length hc
  refine ⟨_, _, _, _, run_yield e1 (by simp; omega), trivial, fun c cs _ => ?_⟩
  have hrd : rdOf (some i) ρ = some p.block := by simp [rdOf, hp]
  have hfold : (r.params.zip rargs.toArray).foldl (fun tmps (x : Nat × Value) => tmps.setIfInBounds x.1 x.2) r.tmps = (r.params.toList.zip rargs).foldl (fun t x => t.setIfInBounds x.1 x.2) r.tmps := by
    rw [← Array.foldl_toList, Array.toList_zip]
  have hfin := stmt_of (hrun ρ h w ρ { tmps := (r.params.toList.zip rargs).foldl (fun t x => t.setIfInBounds x.1 x.2) r.tmps, defers := [] } w ⟨rfl, hs.rlen⟩ (Keeps.refl _ _ _) hs (putps_rel e2 hc) ⟨Dfr.nil _ _, fun _ => by rw [hrd]; rfl⟩) (todo := [.code r.assign, .beginRound, .code r.body]) ⟨h1, trivial, h2, trivial⟩
  rw [hrd] at hfin
  let b : Frame := { (default : Frame) with fn := r.fn, kind := .normal, roundOf := some p.block }
  have hb0 : Frame.round p.block r.fn ((r.params.zip rargs.toArray).foldl (fun tmps (x : Nat × Value) => tmps.setIfInBounds x.1 x.2) r.tmps) r.assign r.body .normal = b.atR { tmps := (r.params.toList.zip rargs).foldl (fun t x => t.setIfInBounds x.1 x.2) r.tmps, defers := [] } [.code r.assign, .beginRound, .code r.body] := by
    rw [hfold]
    simp [Frame.round, Frame.atR, b]
  obtain ⟨v, w', hR, hst⟩ := hfin b (c :: cs) rfl rfl rfl c cs rfl
  exact ⟨.returned v, w', hR, by
    show StepsIn _ _ _ _
    erw [hb0]
    exact steps_fw.2 hst⟩
section
variable {f : FuncId} {n i : Nat} {Q : V → Heap → Prop} {st : St} {r : Loop} {tm : List V}
theorem ri_place {ρ₀ ρ : Rho} {h : Heap} {w₀ w : World} {ds : List Deferred} (hd : Hd ⟨some i⟩ ρ₀ w₀ w ds) (he : Ext ρ₀ ρ) : ∃ p, rdOf (some i) ρ₀ = some p.block ∧ place ρ i = some p := by
  have := hd.2 rfl
  cases hp : place ρ₀ i with
  | none => simp [rdOf, hp] at this
  | some p => exact ⟨p, by simp [rdOf, hp], he i p hp⟩
theorem run_beg {k : List TI} (hb : st.heap[i]? = some (some ⟨.loop r, tm⟩)) (hr : r.state = .ready) (h : RunM P G f n ⟨some i⟩ Q (k, ⟨st.tmps, st.heap.set i (some ⟨.loop { r with state := .busy }, tm⟩)⟩)) : RunM P G f n ⟨some i⟩ Q (.beg :: k, st) := by
  intro ρ₀ h₀ w₀ ρ a w hn hk hsim ht hd
  simp only [Stmt]
  intro todo hm
  obtain ⟨y, r', rfl, h1, h2⟩ := matchL_cons hm
  cases y <;> simp only [MatchI] at h1 <;> try (exact h1.elim)
  obtain ⟨p, hrd, hp⟩ := ri_place (h := st.heap) hd hk.ext
  obtain ⟨_, e1, e2⟩ := hsim.lp i _ p r hb hp rfl
  obtain ⟨s', k'⟩ := loop_put hsim hb hp { r with state := .busy } e2
  refine Fin.step (fun b cs hro => .one (stepR_beginRound (hro.trans hrd) (run_beginRound e1 hr))) ?_
  exact stmt_of (h ρ₀ h₀ w₀ ρ a _ hn (Keeps.trans hsim.plc hk k') s' ht (hd.keep hsim k')) h2
theorem run_round_end (hb : st.heap[i]? = some (some ⟨.loop r, tm⟩)) (hq : Q (.bool true) (st.heap.set i (some ⟨.loop { r with state := .ready, pending := none }, tm⟩))) : RunM P G f n ⟨some i⟩ Q ([], st) := by
  intro ρ₀ h₀ w₀ ρ a w hn hk hsim ht hd
  simp only [Stmt]
  intro todo hm
  cases todo with
  | cons y r => exact hm.elim
  | nil =>
    obtain ⟨p, hrd, hp⟩ := ri_place (h := st.heap) hd hk.ext
    obtain ⟨_, e1, e2⟩ := hsim.lp i _ p r hb hp rfl
    obtain ⟨s', k'⟩ := loop_put hsim hb hp { r with state := .ready, pending := none } e2
    intro b cs hbf hkd hro
    show Goal P f (rdOf (some i) ρ₀) _ _ _
    rw [hrd]
    rintro c cs' rfl
    exact ⟨_, _, ⟨ρ, .bool true, _, .bool true, rfl, rfl, s', Keeps.trans hsim.plc hk k', hq⟩, .one (stepR_round_end (hro.trans hrd) hkd (run_endRound none e1))⟩
theorem run_round_exit {id : Nat} {k : List TI} (hx : exitV id k = none) (hb : st.heap[i]? = some (some ⟨.loop r, tm⟩)) (hq : Q (.bool false) (st.heap.set i (some ⟨.loop { r with state := .done, pending := some (.exit id) }, tm⟩))) : RunM P G f n ⟨some i⟩ Q (.c (.exit id) :: k, st) := by
  intro ρ₀ h₀ w₀ ρ a w hn hk hsim ht hd
  simp only [Stmt]
  intro todo hm
  obtain ⟨y, r', rfl, h1, h2⟩ := matchL_cons hm
  cases y <;> simp only [MatchI] at h1 <;> try (exact h1.elim)
  have := cCode_inv h1; simp only at this; subst this
  obtain ⟨p, hrd, hp⟩ := ri_place (h := st.heap) hd hk.ext
  obtain ⟨_, e1, e2⟩ := hsim.lp i _ p r hb hp rfl
  obtain ⟨s', k'⟩ := loop_put hsim hb hp { r with state := .done, pending := some (.exit id) } e2
  intro b cs hbf hkd hro
  show Goal P f (rdOf (some i) ρ₀) _ _ _
  rw [hrd]
  rintro c cs' rfl
  exact ⟨_, _, ⟨ρ, .bool false, _, .bool false, rfl, rfl, s', Keeps.trans hsim.plc hk k', hq⟩, .one (stepR_round_exit (hro.trans hrd) hkd (exit_none h2 hx) (run_endRound (some (.exit id)) e1))⟩
end
def jumpV (pend : Option Code) (k : List TI) : Option (List TI) := match pend with
  | none => some k
  | some (.exit id) => some (.c (.exit id) :: k)
  | some .ret => some (.c .ret :: k)
  | _ => none
theorem run_range {f : FuncId} {n : Nat} {Q : V → Heap → Prop} {k : List TI} {st : St} {g : A} {ps : List Nat} {va vb : VC} {gf : FuncId} {first captured : List V} (hg : ev st.tmps g = .fn (.func gf) first captured)
    (henter : ∀ xs w, (callFunc gf xs).run P w = .ok (.enter gf xs) w)
    (h : ∀ r : Loop, r.state = .ready → r.pending = none → r.fn = f → r.params.toList = ps → cCode P r.assign = some va → cCode P r.body = some vb →
      VCall P G gf (first ++ [.yld st.heap.length] ++ captured) (st.heap ++ [some ⟨.loop r, st.tmps⟩]) fun _ h' => ∃ r' tm' k', h'[st.heap.length]? = some (some ⟨.loop r', tm'⟩) ∧ r'.state ≠ .busy ∧ jumpV r'.pending k = some k' ∧ Run P G f n Q (k', ⟨st.tmps, h'.set st.heap.length none⟩)) :
    Run P G f n Q (.c (.rng g ps va vb) :: k, st) := by
  intro ρ₀ h₀ w₀ ρ a w hn hk hsim ht hd
  simp only [Stmt]
  intro todo hm
  obtain ⟨y, todo', rfl, h1, h2⟩ := matchL_cons hm
  cases y <;> simp only [MatchI] at h1 <;> try (exact h1.elim)
  have := cCode_inv h1; simp only at this
  obtain ⟨e, qs, ca, cb, rfl, c1, c2, c3, c4⟩ := this
  intro b cs hbf hkd hro
  show Goal P f none _ _ _
  have hro : b.roundOf = none := hro
  let r : Loop := { state := .ready, pending := none, fn := b.fn, tmps := a.tmps, params := qs, assign := ca, body := cb, defers := w.heap.size }
  have henterL : (Instr.enterLoop b.fn a.tmps qs ca cb b.roundOf).run P w = .ok (w.heap.size + 1, [{ target := .collected w.heap.size, args := #[] }]) ((w.alloc (.deferred (some []))).alloc (.loop r)) := by
    rw [hro]
    exact run_enterLoop_outer b.fn a.tmps qs ca cb
  obtain ⟨s1, k1⟩ := loop_new hsim r st.tmps ht
  have hp1 : place (ρ ++ [some ⟨w.heap.size + 1, 0, st.tmps.length⟩]) st.heap.length = some ⟨w.heap.size + 1, 0, st.tmps.length⟩ := by rw [← hsim.rlen]; exact place_new _ _
  -- the call
  have hX := opU ht.evRel c1 hg (by simp)
  simp only [conc, Option.bind_eq_some_iff, Option.map_eq_some_iff] at hX
  obtain ⟨rf, hrf, rc, hrc, hX⟩ := hX
  have hext := Ext.append ρ [some ⟨w.heap.size + 1, 0, st.tmps.length⟩]
  have hargs : concs (ρ ++ [some ⟨w.heap.size + 1, 0, st.tmps.length⟩]) (first ++ [.yld st.heap.length] ++ captured) = some (rf ++ [Value.func (.yield (w.heap.size + 1)) #[] #[]] ++ rc) :=
    concs_append (concs_append (concs_ext hext _ _ hrf) (by simp [concs, conc, hp1])) (concs_ext hext _ _ hrc)
  have hres : (resolve a.eval (rangeCall e (w.heap.size + 1)) 0).run P ((w.alloc (.deferred (some []))).alloc (.loop r)) = .ok { target := .fn (.func gf) rc.toArray, args := rf.toArray ++ #[Value.func (.yield (w.heap.size + 1)) #[] #[]] } ((w.alloc (.deferred (some []))).alloc (.loop r)) := by
    simp only [rangeCall, resolve, ← hX, Deferred.ofValue, Sem.run_bind, Sem.run_pure, Result.andThen_ok]
    simp [Act.eval]
  have hinv : ∀ W, (invoke (.fn (.func gf) rc.toArray) (rf.toArray ++ #[Value.func (.yield (w.heap.size + 1)) #[] #[]])).run P W = .ok (.enter gf (rf ++ [Value.func (.yield (w.heap.size + 1)) #[] #[]] ++ rc).toArray) W := by
    intro W
    have := henter ((rf ++ [Value.func (.yield (w.heap.size + 1)) #[] #[]] ++ rc).toArray) W
    rw [← this]
    simp only [invoke]
    congr 2
    apply Array.ext'
    simp
  have hstep := stepR_rangeFunc (P := P) (b := b) (a := a) (k := todo') (cs := cs) (w := w) (ps := qs) (assign := ca) (body := cb) (g := e) henterL hres (hinv _)
  refine Goal.steps (.one hstep) ?_
  have hcall := h r rfl rfl hbf c2 c3 c4 _ _ _ s1 hargs
  have hcall := (hcall.resolve_right fun ⟨v, w', hc', _⟩ => by rw [henter] at hc'; cases hc').2
  obtain ⟨en, w3, fr, hR, hcomes, hfn, hleave⟩ := hcall (b.atR { a with defers := [{ target := .collected w.heap.size, args := #[] }] ++ a.defers } (.inRangeFunc (w.heap.size + 1) :: todo') :: cs)
  obtain ⟨ρ3, u, h3, x, rfl, _, s3, k3, r', tm', k', e1, e2, e3, e4⟩ := hR
  refine Goal.steps hcomes ?_
  have hp3 := k3.ext _ _ hp1
  obtain ⟨_, l1, l2⟩ := s3.lp _ _ _ r' e1 hp3 rfl
  have hend := run_endLoop (P := P) l1 e2
  have hst2 : Steps P (lone fr (b.atR { a with defers := [{ target := .collected w.heap.size, args := #[] }] ++ a.defers } (.inRangeFunc (w.heap.size + 1) :: todo') :: cs) w3) (lone (b.atR { a with defers := [{ target := .collected w.heap.size, args := #[] }] ++ a.defers } ((r'.pending.map Item.code).toList ++ todo')) cs (w3.putObj (w.heap.size + 1) (.loop { r' with state := .exhausted }))) := by
    refine Steps.trans (.one (step_leave_returned hleave)) ?_
    rw [finish_atR_inRangeFunc]
    exact .one (stepR_endRangeFunc hend)
  refine Goal.steps hst2 ?_
  obtain ⟨s4, k4⟩ := loop_put s3 e1 hp3 { r' with state := .exhausted } l2
  obtain ⟨s5, k5⟩ := kill_sim s4 st.heap.length
  have hset : (h3.set st.heap.length (some ⟨.loop { r' with state := .exhausted }, tm'⟩)).set st.heap.length none = h3.set st.heap.length none := by simp
  rw [hset] at s5 k5
  -- the marks
  have hD : ((w.alloc (.deferred (some []))).alloc (.loop r)).heap[w.heap.size]? = some (.deferred (some [])) := by
    show ((w.heap.push _).push _)[w.heap.size]? = _
    rw [Array.getElem?_push, if_neg (by simp), Array.getElem?_push, if_pos rfl]
  have hdf : Dfr w₀ ((w.alloc (.deferred (some []))).alloc (.loop r)) ([{ target := .collected w.heap.size, args := #[] }] ++ a.defers) := by
    obtain ⟨L, d1, d2, d3⟩ := ((hd.1.alloc (.deferred (some []))).alloc (.loop r))
    obtain ⟨L', d1', d2', d3'⟩ := hd.1
    refine ⟨w.heap.size :: L', List.nodup_cons.2 ⟨fun hm => ?_, d1'⟩, by rw [d2']; rfl, fun D hD' => ?_⟩
    · have := (Array.getElem?_eq_some_iff.1 (d3' _ hm).2).1
      omega
    · rcases List.mem_cons.1 hD' with rfl | hm
      · exact ⟨hk.size, hD⟩
      · refine ⟨(d3' D hm).1, ?_⟩
        rw [k1.same D (Array.getElem?_eq_some_iff.1 (d3' D hm).2).1 (not_wr hsim (d3' D hm).2)]
        exact (d3' D hm).2
  have hdf4 := (hdf.keep s1 k3).keep s3 k4
  have kall : Keeps ρ₀ h₀ w₀ ρ3 (h3.set st.heap.length none) (w3.putObj (w.heap.size + 1) (.loop { r' with state := .exhausted })) :=
    Keeps.trans s4.plc (Keeps.trans s3.plc (Keeps.trans s1.plc (Keeps.trans hsim.plc hk k1) k3) k4) k5
  have hrun := e4 ρ₀ h₀ w₀ ρ3 { a with defers := [{ target := .collected w.heap.size, args := #[] }] ++ a.defers } _ hn kall s5 (ht.ext (hext.trans k3.ext)) ⟨hdf4, fun h => by cases h⟩
  have hjm : MatchL P k' ((r'.pending.map Item.code).toList ++ todo') := by
    unfold jumpV at e3
    split at e3 <;> cases e3
    · rename_i hpn; rw [hpn]; exact h2
    · rename_i id hpn; rw [hpn]; exact ⟨rfl, h2⟩
    · rename_i hpn; rw [hpn]; exact ⟨rfl, h2⟩
  exact stmt_of hrun hjm b cs hbf hkd hro
end Go.Vs
