/- Text 8 of 11 of this claim: a machine of plain values beside the model, what the functions of the program and of the reference answer over it, and last the row and its card. -/
import Derived.Test.YtgppccahbcbanaaDoorK7
import Derived.Test.YtgppccahbcbanaaDoorK6
set_option linter.unusedVariables false
set_option linter.unusedSimpArgs false
namespace Go.VsP
section
abbrev Fq := Fin 7237005577332262213973186563042994240857116359379907606001950938285454250989
def Dom : Prop := ∀ x y : Fq, x * y = 0 → x = 0 ∨ y = 0
theorem quad0 (hd : Dom) {a b c s1 s2 s3 : Fq} (h12 : s1 ≠ s2) (h13 : s1 ≠ s3) (h23 : s2 ≠ s3) (e1 : a * s1 * s1 + b * s1 + c = 0) (e2 : a * s2 * s2 + b * s2 + c = 0) (e3 : a * s3 * s3 + b * s3 + c = 0) : a = 0 ∧ b = 0 ∧ c = 0 := by
  have d12 : a * (s1 + s2) + b = 0 := by
    rcases hd (s1 - s2) (a * (s1 + s2) + b) (by grobner) with h | h
    · exact absurd (by grobner) h12
    · exact h
  have d13 : a * (s1 + s3) + b = 0 := by
    rcases hd (s1 - s3) (a * (s1 + s3) + b) (by grobner) with h | h
    · exact absurd (by grobner) h13
    · exact h
  have ha : a = 0 := by
    rcases hd (s2 - s3) a (by grobner) with h | h
    · exact absurd (by grobner) h23
    · exact h
  subst ha
  have hb : b = 0 := by grobner
  subst hb
  exact ⟨rfl, rfl, by grobner⟩
theorem cube0 (hd : Dom) {a b c d s1 s2 s3 s4 : Fq} (h12 : s1 ≠ s2) (h13 : s1 ≠ s3) (h14 : s1 ≠ s4) (h23 : s2 ≠ s3) (h24 : s2 ≠ s4) (h34 : s3 ≠ s4) (e1 : a * s1 * s1 * s1 + b * s1 * s1 + c * s1 + d = 0) (e2 : a * s2 * s2 * s2 + b * s2 * s2 + c * s2 + d = 0) (e3 : a * s3 * s3 * s3 + b * s3 * s3 + c * s3 + d = 0) (e4 : a * s4 * s4 * s4 + b * s4 * s4 + c * s4 + d = 0) : a = 0 ∧ b = 0 ∧ c = 0 ∧ d = 0 := by
  have d2 : a * s2 * s2 + (a * s1 + b) * s2 + (a * s1 * s1 + b * s1 + c) = 0 := by
    rcases hd (s1 - s2) (a * s2 * s2 + (a * s1 + b) * s2 + (a * s1 * s1 + b * s1 + c)) (by grobner) with h | h
    · exact absurd (by grobner) h12
    · exact h
  have d3 : a * s3 * s3 + (a * s1 + b) * s3 + (a * s1 * s1 + b * s1 + c) = 0 := by
    rcases hd (s1 - s3) (a * s3 * s3 + (a * s1 + b) * s3 + (a * s1 * s1 + b * s1 + c)) (by grobner) with h | h
    · exact absurd (by grobner) h13
    · exact h
  have d4 : a * s4 * s4 + (a * s1 + b) * s4 + (a * s1 * s1 + b * s1 + c) = 0 := by
    rcases hd (s1 - s4) (a * s4 * s4 + (a * s1 + b) * s4 + (a * s1 * s1 + b * s1 + c)) (by grobner) with h | h
    · exact absurd (by grobner) h14
    · exact h
  obtain ⟨ha, hb, hc⟩ := quad0 hd h23 h24 h34 d2 d3 d4
  subst ha
  exact ⟨rfl, by grobner, by grobner, by grobner⟩
theorem key1 {a b c l p r l' p' r' : Fq} (h : a * b = 1) (h1 : b * c = a * a * l + p + b * b * r) (h2 : a * c = a * a * l' + p' + b * b * r') : l * (a * a) * (a * a) * (a * a) + (p - l') * (a * a) * (a * a) + (r - p') * (a * a) + (0 - r') = 0 := by
  have e0 : a * c = a * a * (b * c) := by clear h1 h2; grobner
  rw [h1, h2] at e0
  clear h1 h2
  have e1 : a * a * (b * b) = 1 := by clear e0; grobner
  have e3 : a * a * (a * a * l' + p' + b * b * r') = a * a * (a * a * (a * a * l + p + b * b * r)) := by rw [e0]
  clear e0 h
  generalize a * a = s at *
  generalize b * b = t at *
  grobner
theorem key2 {a b A l p r p' : Fq} (h : a * b = 1) (h1 : b * A = a * a * l + p + b * b * r) (k1 : l = 0) (k3 : r - p' = 0) : A = a * p + b * p' := by
  have e : A = a * (b * A) := by clear h1 k1 k3; grobner
  rw [e, h1, k1]
  clear h1 e k1
  grobner
theorem key3 {a b A B p p' y y' : Fq} (h : a * b = 1) (h1 : A = a * p + b * p') (h2 : B = a * y' + b * y) : A * B = a * a * (p * y') + (p * y + p' * y') + b * b * (p' * y) := by
  subst h1 h2
  grobner
theorem key4 {a b X Y Z l p r : Fq} (h : a * b = 1) (h1 : a * a * X + Y + b * b * Z = a * a * l + p + b * b * r) : (X - l) * (a * a) * (a * a) + (Y - p) * (a * a) + (Z - r) = 0 := by
  have e1 : a * a * (b * b) = 1 := by clear h1; grobner
  have e3 : a * a * (a * a * X + Y + b * b * Z) = a * a * (a * a * l + p + b * b * r) := by rw [h1]
  clear h1 h
  generalize a * a = s at *
  generalize b * b = t at *
  grobner
theorem place (hd : Dom) {u v : Nat → Fq} (huv : ∀ i, i < 4 → u i * v i = 1) (hs : ∀ i j, i < 4 → j < 4 → i ≠ j → u i * u i ≠ u j * u j) {A : Nat → Fq} {l p r l' p' r' : Fq}
    (hx : ∀ i, i < 4 → v i * A i = u i * u i * l + p + v i * v i * r) (hy : ∀ i, i < 4 → u i * A i = u i * u i * l' + p' + v i * v i * r') :
    ∀ i, i < 4 → A i = u i * p + v i * p' := by
  have key : ∀ i, i < 4 → l * (u i * u i) * (u i * u i) * (u i * u i) + (p - l') * (u i * u i) * (u i * u i) + (r - p') * (u i * u i) + (0 - r') = 0 := fun i hi => by
    have h1 := hx i hi
    have h2 := hy i hi
    have h3 := huv i hi
    generalize u i = a at *
    generalize v i = b at *
    generalize A i = c at *
    exact key1 h3 h1 h2
  obtain ⟨k1, k2, k3, k4⟩ := cube0 hd (hs 0 1 (by decide) (by decide) (by decide)) (hs 0 2 (by decide) (by decide) (by decide)) (hs 0 3 (by decide) (by decide) (by decide)) (hs 1 2 (by decide) (by decide) (by decide)) (hs 1 3 (by decide) (by decide) (by decide)) (hs 2 3 (by decide) (by decide) (by decide)) (key 0 (by decide)) (key 1 (by decide)) (key 2 (by decide)) (key 3 (by decide))
  intro i hi
  have h1 := hx i hi
  have h3 := huv i hi
  exact key2 h3 h1 k1 k3
def sF (f : Nat → Fq) : Nat → Fq
  | 0 => 0
  | n + 1 => sF f n + f n
theorem sF_congr {f g : Nat → Fq} : ∀ {n : Nat}, (∀ j, j < n → f j = g j) → sF f n = sF g n
  | 0, _ => rfl
  | n + 1, h => by rw [sF, sF, sF_congr fun j hj => h j (by omega), h n (by omega)]
theorem add3 {a b x y z f g k : Fq} : a * x + y + b * z + (a * f + g + b * k) = a * (x + f) + (y + g) + b * (z + k) := by grobner
theorem sF_three (a b : Fq) (f g k : Nat → Fq) : ∀ n, sF (fun j => a * f j + g j + b * k j) n = a * sF f n + sF g n + b * sF k n
  | 0 => by simp only [sF]; grobner
  | n + 1 => by simp only [sF]; rw [sF_three a b f g k n]; exact add3
theorem inner (hd : Dom) (m : Nat) {u v : Nat → Fq} (huv : ∀ i, i < 4 → u i * v i = 1) (hs : ∀ i j, i < 4 → j < 4 → i ≠ j → u i * u i ≠ u j * u j) {A B : Nat → Nat → Fq} {l p r : Nat → Fq}
    (h0 : ∀ i, i < 4 → sF (fun j => A i j * B i j) m = u i * u i * l 0 + p 0 + v i * v i * r 0)
    (h1 : ∀ i j, i < 4 → j < m → v i * A i j = u i * u i * l (1 + j) + p (1 + j) + v i * v i * r (1 + j))
    (h2 : ∀ i j, i < 4 → j < m → u i * A i j = u i * u i * l (1 + m + j) + p (1 + m + j) + v i * v i * r (1 + m + j))
    (h3 : ∀ i j, i < 4 → j < m → u i * B i j = u i * u i * l (1 + 2 * m + j) + p (1 + 2 * m + j) + v i * v i * r (1 + 2 * m + j))
    (h4 : ∀ i j, i < 4 → j < m → v i * B i j = u i * u i * l (1 + 3 * m + j) + p (1 + 3 * m + j) + v i * v i * r (1 + 3 * m + j)) :
    p 0 = sF (fun j => p (1 + j) * p (1 + 2 * m + j) + p (1 + m + j) * p (1 + 3 * m + j)) m := by
  have ea : ∀ i j, i < 4 → j < m → A i j = u i * p (1 + j) + v i * p (1 + m + j) := fun i j hi hj =>
    place hd (A := fun i => A i j) huv hs (fun i hi => h1 i j hi hj) (fun i hi => h2 i j hi hj) i hi
  have eb : ∀ i j, i < 4 → j < m → B i j = u i * p (1 + 3 * m + j) + v i * p (1 + 2 * m + j) := fun i j hi hj =>
    place hd (A := fun i => B i j) huv hs (fun i hi => h4 i j hi hj) (fun i hi => h3 i j hi hj) i hi
  have es : ∀ i, i < 4 → sF (fun j => A i j * B i j) m = (u i * u i) * sF (fun j => p (1 + j) * p (1 + 3 * m + j)) m + sF (fun j => p (1 + j) * p (1 + 2 * m + j) + p (1 + m + j) * p (1 + 3 * m + j)) m + (v i * v i) * sF (fun j => p (1 + m + j) * p (1 + 2 * m + j)) m := fun i hi => by
    rw [← sF_three]
    refine sF_congr fun j hj => ?_
    exact key3 (huv i hi) (ea i j hi hj) (eb i j hi hj)
  generalize sF (fun j => p (1 + j) * p (1 + 3 * m + j)) m = X at *
  generalize sF (fun j => p (1 + j) * p (1 + 2 * m + j) + p (1 + m + j) * p (1 + 3 * m + j)) m = Y at *
  generalize sF (fun j => p (1 + m + j) * p (1 + 2 * m + j)) m = Z at *
  have key : ∀ i, i < 4 → (X - l 0) * (u i * u i) * (u i * u i) + (Y - p 0) * (u i * u i) + (Z - r 0) = 0 := fun i hi => by
    have e1 := h0 i hi
    rw [es i hi] at e1
    exact key4 (huv i hi) e1
  obtain ⟨_, k2, _⟩ := quad0 hd (hs 0 1 (by decide) (by decide) (by decide)) (hs 0 2 (by decide) (by decide) (by decide)) (hs 1 2 (by decide) (by decide) (by decide)) (key 0 (by decide)) (key 1 (by decide)) (key 2 (by decide))
  grobner
theorem vand (hd : Dom) {e1 e2 e3 s1 s2 s3 t1 t2 t3 : Fq} (h1 : s1 * t1 = 1) (h2 : s2 * t2 = 1) (h3 : s3 * t3 = 1) (h12 : s1 ≠ s2) (h23 : s2 ≠ s3) (a : e1 * s1 + e2 * s2 + e3 * s3 = 0) (b : e1 + e2 + e3 = 0) (c : e1 * t1 + e2 * t2 + e3 * t3 = 0) : e2 = 0 := by
  have c' : e1 * (s2 * s3) + e2 * (s1 * s3) + e3 * (s1 * s2) = 0 := by
    have : s1 * s2 * s3 * (e1 * t1 + e2 * t2 + e3 * t3) = 0 := by rw [c]; clear a b c; grobner
    clear a b c h12 h23
    grobner
  clear c
  have k : (s2 - s3) * ((s2 - s1) * e2) = 0 := by clear h1 h2 h3 h12 h23; grobner
  rcases hd _ _ k with h | h
  · exact absurd (by clear h1 h2 h3 a b c' k; grobner) h23
  · rcases hd _ _ h with h | h
    · exact absurd (by clear h1 h2 h3 a b c' k; grobner) h12.symm
    · exact h
theorem back3 (hd : Dom) {s1 s2 s3 t1 t2 t3 : Fq} (h1 : s1 * t1 = 1) (h2 : s2 * t2 = 1) (h3 : s3 * t3 = 1) (h12 : s1 ≠ s2) (h13 : s1 ≠ s3) (h23 : s2 ≠ s3) {k01 k02 k03 k11 k12 k13 k21 k22 k23 : Fq}
    (a0 : k01 * s1 + k02 * s2 + k03 * s3 = 1) (a1 : k01 + k02 + k03 = 0) (a2 : k01 * t1 + k02 * t2 + k03 * t3 = 0)
    (b0 : k11 * s1 + k12 * s2 + k13 * s3 = 0) (b1 : k11 + k12 + k13 = 1) (b2 : k11 * t1 + k12 * t2 + k13 * t3 = 0)
    (c0 : k21 * s1 + k22 * s2 + k23 * s3 = 0) (c1 : k21 + k22 + k23 = 0) (c2 : k21 * t1 + k22 * t2 + k23 * t3 = 1) {s t x1 x2 x3 : Fq} (i : Nat) (hi : i = 1 ∧ s = s1 ∧ t = t1 ∨ i = 2 ∧ s = s2 ∧ t = t2 ∨ i = 3 ∧ s = s3 ∧ t = t3) :
    s * (k01 * x1 + k02 * x2 + k03 * x3) + (k11 * x1 + k12 * x2 + k13 * x3) + t * (k21 * x1 + k22 * x2 + k23 * x3) = if i = 1 then x1 else if i = 2 then x2 else x3 := by
  obtain ⟨d1, d2, d3, hd1⟩ : ∃ d1 d2 d3 : Fq, (d1 * s1 + d2 * s2 + d3 * s3 = s ∧ d1 + d2 + d3 = 1 ∧ d1 * t1 + d2 * t2 + d3 * t3 = t) ∧ d1 * x1 + d2 * x2 + d3 * x3 = if i = 1 then x1 else if i = 2 then x2 else x3 := by
    rcases hi with ⟨rfl, rfl, rfl⟩ | ⟨rfl, rfl, rfl⟩ | ⟨rfl, rfl, rfl⟩
    · exact ⟨1, 0, 0, ⟨by grobner, by grobner, by grobner⟩, by rw [if_pos rfl]; grobner⟩
    · exact ⟨0, 1, 0, ⟨by grobner, by grobner, by grobner⟩, by rw [if_neg (by decide), if_pos rfl]; grobner⟩
    · exact ⟨0, 0, 1, ⟨by grobner, by grobner, by grobner⟩, by rw [if_neg (by decide), if_neg (by decide)]; grobner⟩
  obtain ⟨⟨m1, m2, m3⟩, m4⟩ := hd1
  rw [← m4]
  have A : (s * k01 + k11 + t * k21 - d1) * s1 + (s * k02 + k12 + t * k22 - d2) * s2 + (s * k03 + k13 + t * k23 - d3) * s3 = 0 := by
    have : s * (k01 * s1 + k02 * s2 + k03 * s3) + (k11 * s1 + k12 * s2 + k13 * s3) + t * (k21 * s1 + k22 * s2 + k23 * s3) - (d1 * s1 + d2 * s2 + d3 * s3) = 0 := by rw [a0, b0, c0, m1]; grobner
    rw [← this]; clear this a0 a1 a2 b0 b1 b2 c0 c1 c2 m1 m2 m3 m4 h1 h2 h3; grobner
  have B : (s * k01 + k11 + t * k21 - d1) + (s * k02 + k12 + t * k22 - d2) + (s * k03 + k13 + t * k23 - d3) = 0 := by
    have : s * (k01 + k02 + k03) + (k11 + k12 + k13) + t * (k21 + k22 + k23) - (d1 + d2 + d3) = 0 := by rw [a1, b1, c1, m2]; grobner
    rw [← this]; clear this a0 a1 a2 b0 b1 b2 c0 c1 c2 m1 m2 m3 m4 h1 h2 h3 A; grobner
  have C : (s * k01 + k11 + t * k21 - d1) * t1 + (s * k02 + k12 + t * k22 - d2) * t2 + (s * k03 + k13 + t * k23 - d3) * t3 = 0 := by
    have : s * (k01 * t1 + k02 * t2 + k03 * t3) + (k11 * t1 + k12 * t2 + k13 * t3) + t * (k21 * t1 + k22 * t2 + k23 * t3) - (d1 * t1 + d2 * t2 + d3 * t3) = 0 := by rw [a2, b2, c2, m3]; grobner
    rw [← this]; clear this a0 a1 a2 b0 b1 b2 c0 c1 c2 m1 m2 m3 m4 h1 h2 h3 A B; grobner
  clear a0 a1 a2 b0 b1 b2 c0 c1 c2 m1 m2 m3 m4
  have E2 := vand hd h1 h2 h3 h12 h23 A B C
  have E1 := vand hd h2 h1 h3 h12.symm h13 (e1 := s * k02 + k12 + t * k22 - d2) (e2 := s * k01 + k11 + t * k21 - d1) (e3 := s * k03 + k13 + t * k23 - d3) (by rw [← A]; clear A B C E2; grobner) (by rw [← B]; clear A B C E2; grobner) (by rw [← C]; clear A B C E2; grobner)
  have E3 : s * k03 + k13 + t * k23 - d3 = 0 := by rw [E1, E2] at B; rw [← B]; clear A B C E1 E2; grobner
  clear A B C
  have F1 : s * k01 + k11 + t * k21 = d1 := by clear E2 E3; grobner
  have F2 : s * k02 + k12 + t * k22 = d2 := by clear E1 E3; grobner
  have F3 : s * k03 + k13 + t * k23 = d3 := by clear E1 E2; grobner
  rw [← F1, ← F2, ← F3]
  clear E1 E2 E3 F1 F2 F3 h1 h2 h3
  grobner
end
section
def res (M : Nat → Nat → Fq) (z : Fq) (x : Nat → Fq) (c : Nat) : Fq := M c 0 * x 0 + M c 1 * x 1 + M c 2 * x 2 - z * M c 3
def Sol (M : Nat → Nat → Fq) (z : Fq) (x : Nat → Fq) : Prop := ∀ c, c < 3 → res M z x c = 0
def sw (k p c : Nat) : Nat := if c = k then p else if c = p then k else c
theorem sw_lt {k p c : Nat} (hk : k < 3) (hp : p < 3) (hc : c < 3) : sw k p c < 3 := by
  unfold sw
  split
  · exact hp
  · split
    · exact hk
    · exact hc
theorem sw_sw (k p c : Nat) : sw k p (sw k p c) = c := by
  unfold sw
  by_cases h1 : c = k
  · rw [if_pos h1]
    by_cases h2 : p = k
    · rw [if_pos h2]; omega
    · rw [if_neg h2, if_pos rfl]; omega
  · rw [if_neg h1]
    by_cases h2 : c = p
    · rw [if_pos h2, if_pos rfl]; omega
    · rw [if_neg h2, if_neg h1, if_neg h2]
def elim (M : Nat → Nat → Fq) (k p : Nat) (f : Fq) (c j : Nat) : Fq := if c = k then M p j * f else M (sw k p c) j - M (sw k p c) k * (M p j * f)
theorem res_k (M : Nat → Nat → Fq) (k p : Nat) (f z : Fq) (x : Nat → Fq) : res (elim M k p f) z x k = f * res M z x p := by
  unfold res elim
  simp only [if_true]
  grobner
theorem res_c (M : Nat → Nat → Fq) (k p : Nat) (f z : Fq) (x : Nat → Fq) {c : Nat} (hc : c ≠ k) : res (elim M k p f) z x c = res M z x (sw k p c) - M (sw k p c) k * (f * res M z x p) := by
  unfold res elim
  simp only [if_neg hc]
  grobner
theorem sol_elim (M : Nat → Nat → Fq) {k p : Nat} (hk : k < 3) (hp : p < 3) {f : Fq} (hf : M p k * f = 1) (z : Fq) (x : Nat → Fq) : Sol (elim M k p f) z x ↔ Sol M z x := by
  constructor
  · intro h
    have e0 := h k hk
    rw [res_k] at e0
    have ep : res M z x p = 0 := by
      have : res M z x p = M p k * (f * res M z x p) := by clear e0 h; grobner
      rw [this, e0]; grobner
    intro c hc
    by_cases h1 : c = p
    · rw [h1]; exact ep
    · have e1 := h (sw k p c) (sw_lt hk hp hc)
      have h2 : sw k p c ≠ k := by
        intro e
        have := sw_sw k p c
        rw [e, sw, if_pos rfl] at this
        exact h1 this.symm
      rw [res_c _ _ _ _ _ _ h2, sw_sw, ep] at e1
      rw [← e1]; clear e1 e0 ep h; grobner
  · intro h c hc
    by_cases h1 : c = k
    · rw [h1, res_k, h p hp]; grobner
    · rw [res_c _ _ _ _ _ _ h1, h _ (sw_lt hk hp hc), h p hp]; grobner
def Unit (M : Nat → Nat → Fq) (k : Nat) : Prop := ∀ c j, c < 3 → j < k → M c j = if c = j then 1 else 0
theorem unit_elim (M : Nat → Nat → Fq) {k p : Nat} (hk : k < 3) (hp : p < 3) (hkp : k ≤ p) {f : Fq} (hf : M p k * f = 1) (h : Unit M k) : Unit (elim M k p f) (k + 1) := by
  intro c j hc hj
  unfold elim
  by_cases hj' : j < k
  · have e0 : M p j = 0 := by rw [h p j hp hj', if_neg (by omega)]
    rw [e0]
    by_cases h1 : c = k
    · rw [if_pos h1, if_neg (by omega)]; grobner
    · rw [if_neg h1, h _ j (sw_lt hk hp hc) hj']
      have : (sw k p c = j) = (c = j) := by
        unfold sw
        rw [if_neg h1]
        by_cases h2 : c = p
        · rw [if_pos h2]; exact propext ⟨fun e => by omega, fun e => by omega⟩
        · rw [if_neg h2]
      simp only [this]
      grobner
  · obtain rfl : j = k := by omega
    by_cases h1 : c = j
    · rw [if_pos h1, if_pos h1, hf]
    · rw [if_neg h1, if_neg h1, hf]; grobner
theorem pivot (M : Nat → Nat → Fq) {k : Nat} (hk : k < 3) (h : Unit M k) (hn : ∀ x, Sol M 0 x → x k = 0) (h0 : ∀ c, k ≤ c → c < 3 → M c k = 0) : False := by
  have key : Sol M 0 (fun j => if j < k then 0 - M j k else if j = k then 1 else 0) := by
    intro c hc
    have u := fun j hj => h c j hc hj
    unfold res
    have e0 : k ≤ c → M c k = 0 := fun h => h0 c h hc
    match k, hk with
    | 0, _ =>
      have := e0 (Nat.zero_le _)
      simp only [Nat.not_lt_zero, if_false, if_true]
      rw [this]
      clear u e0 this
      simp only [show ((1 : Nat) = 0) = False from eq_false (by decide), show ((2 : Nat) = 0) = False from eq_false (by decide), if_false]
      grobner
    | 1, _ =>
      have u0 := u 0 (by decide)
      simp only [show ((0 : Nat) < 1) = True from eq_true (by decide), show ((1 : Nat) < 1) = False from eq_false (by decide), show ((2 : Nat) < 1) = False from eq_false (by decide), show ((2 : Nat) = 1) = False from eq_false (by decide), if_false, if_true]
      rw [u0]
      by_cases hc0 : c = 0
      · subst hc0; rw [if_pos rfl]; clear u e0 u0; grobner
      · rw [if_neg hc0, e0 (by omega)]; clear u e0 u0; grobner
    | 2, _ =>
      have u0 := u 0 (by decide)
      have u1 := u 1 (by decide)
      simp only [show ((0 : Nat) < 2) = True from eq_true (by decide), show ((1 : Nat) < 2) = True from eq_true (by decide), show ((2 : Nat) < 2) = False from eq_false (by decide), if_false, if_true]
      rw [u0, u1]
      by_cases hc0 : c = 0
      · subst hc0; rw [if_pos rfl, if_neg (by decide)]; clear u e0 u0 u1; grobner
      · by_cases hc1 : c = 1
        · subst hc1; rw [if_neg (by decide), if_pos rfl]; clear u e0 u0 u1; grobner
        · rw [if_neg hc0, if_neg hc1, e0 (by omega)]; clear u e0 u0 u1; grobner
  have := hn _ key
  simp only [Nat.lt_irrefl, if_false, if_true] at this
  exact absurd this (by decide)
theorem unit_sol {M : Nat → Nat → Fq} (h : Unit M 3) : Sol M 1 fun j => M j 3 := by
  intro c hc
  unfold res
  rw [h c 0 hc (by decide), h c 1 hc (by decide), h c 2 hc (by decide)]
  match c, hc with
  | 0, _ => simp only [show ((0 : Nat) = 1) = False from eq_false (by decide), show ((0 : Nat) = 2) = False from eq_false (by decide), if_false, if_true]; grobner
  | 1, _ => simp only [show ((1 : Nat) = 0) = False from eq_false (by decide), show ((1 : Nat) = 2) = False from eq_false (by decide), if_false, if_true]; grobner
  | 2, _ => simp only [show ((2 : Nat) = 1) = False from eq_false (by decide), show ((2 : Nat) = 0) = False from eq_false (by decide), if_false, if_true]; grobner
end
section
theorem lin3 {a b c x y z x' y' z' : Fq} : (a * x + b * y + c * z) + (a * x' + b * y' + c * z') = a * (x + x') + b * (y + y') + c * (z + z') := by grobner
theorem sF_lin (a b c : Fq) (f g k : Nat → Fq) : ∀ n, sF (fun j => a * f j + b * g j + c * k j) n = a * sF f n + b * sF g n + c * sF k n
  | 0 => by simp only [sF]; grobner
  | n + 1 => by simp only [sF]; rw [sF_lin a b c f g k n]; exact lin3
def dot (m : Nat) (q : Fq) (g h x : Nat → Fq) : Fq := x 0 * q + sF (fun j => x (1 + j) * g j + x (1 + m + j) * g (m + j) + x (1 + 2 * m + j) * h j + x (1 + 3 * m + j) * h (m + j)) m
theorem dl1 {a b c x y z g x1 y1 z1 g1 x2 y2 z2 g2 x3 y3 z3 g3 : Fq} : (a * x + b * y + c * z) * g + (a * x1 + b * y1 + c * z1) * g1 + (a * x2 + b * y2 + c * z2) * g2 + (a * x3 + b * y3 + c * z3) * g3 = a * (x * g + x1 * g1 + x2 * g2 + x3 * g3) + b * (y * g + y1 * g1 + y2 * g2 + y3 * g3) + c * (z * g + z1 * g1 + z2 * g2 + z3 * g3) := by grobner
theorem dl2 {a b c x y z q X Y Z : Fq} : (a * x + b * y + c * z) * q + (a * X + b * Y + c * Z) = a * (x * q + X) + b * (y * q + Y) + c * (z * q + Z) := by grobner
theorem dot_lin (m : Nat) (q : Fq) (g h : Nat → Fq) (a b c : Fq) (x y z : Nat → Fq) : dot m q g h (fun j => a * x j + b * y j + c * z j) = a * dot m q g h x + b * dot m q g h y + c * dot m q g h z := by
  unfold dot
  rw [sF_congr (g := fun j => a * (x (1 + j) * g j + x (1 + m + j) * g (m + j) + x (1 + 2 * m + j) * h j + x (1 + 3 * m + j) * h (m + j)) + b * (y (1 + j) * g j + y (1 + m + j) * g (m + j) + y (1 + 2 * m + j) * h j + y (1 + 3 * m + j) * h (m + j)) + c * (z (1 + j) * g j + z (1 + m + j) * g (m + j) + z (1 + 2 * m + j) * h j + z (1 + 3 * m + j) * h (m + j))) (fun j _ => dl1), sF_lin]
  exact dl2
theorem dot_congr (m : Nat) (q : Fq) (g h : Nat → Fq) {x y : Nat → Fq} (e : ∀ j, j < 1 + 4 * m → x j = y j) : dot m q g h x = dot m q g h y := by
  unfold dot
  rw [e 0 (by omega), sF_congr fun j hj => by rw [e (1 + j) (by omega), e (1 + m + j) (by omega), e (1 + 2 * m + j) (by omega), e (1 + 3 * m + j) (by omega)]]
structure Four (m : Nat) (q l P r : Fq) (g h : Nat → Fq) (s t : Nat → Fq) (told : Nat → Nat → Fq) (K : Nat → Nat → Fq) (known : Nat → Nat → Fq) : Prop where
  inv : ∀ i, i < 4 → s i * t i = 1
  unl : ∀ i j, i < 4 → j < 4 → i ≠ j → s i ≠ s j
  rel : ∀ i, i < 4 → dot m q g h (told i) = l * s i + P + r * t i
  k0 : ∀ w, w < 3 → K w 0 * s 0 + K w 1 * s 1 + K w 2 * s 2 = if w = 0 then 1 else 0
  k1 : ∀ w, w < 3 → K w 0 + K w 1 + K w 2 = if w = 1 then 1 else 0
  k2 : ∀ w, w < 3 → K w 0 * t 0 + K w 1 * t 1 + K w 2 * t 2 = if w = 2 then 1 else 0
  kn : ∀ w j, w < 3 → j < 1 + 4 * m → known w j = K w 0 * told 0 j + K w 1 * told 1 j + K w 2 * told 2 j
section
variable {m : Nat} {q l P r : Fq} {g h : Nat → Fq} {s t : Nat → Fq} {told K known : Nat → Nat → Fq} (F : Four m q l P r g h s t told K known)
include F
theorem Four.dots {w : Nat} (hw : w < 3) : dot m q g h (known w) = l * (if w = 0 then 1 else 0) + P * (if w = 1 then 1 else 0) + r * (if w = 2 then 1 else 0) := by
  rw [dot_congr m q g h (fun j hj => F.kn w j hw hj), dot_lin, F.rel 0 (by decide), F.rel 1 (by decide), F.rel 2 (by decide), ← F.k0 w hw, ← F.k1 w hw, ← F.k2 w hw]
  clear F
  grobner
theorem Four.relation : dot m q g h (fun j => s 3 * known 0 j + known 1 j + t 3 * known 2 j - told 3 j) = 0 := by
  have e : dot m q g h (fun j => s 3 * known 0 j + known 1 j + t 3 * known 2 j - told 3 j) = dot m q g h (fun j => 1 * (s 3 * known 0 j + 1 * known 1 j + t 3 * known 2 j) + (0 - 1) * told 3 j + 0 * told 3 j) := dot_congr m q g h fun j _ => by grobner
  rw [e, dot_lin, dot_lin, F.dots (by decide), F.dots (by decide), F.dots (by decide), F.rel 3 (by decide)]
  simp only [show ((0 : Nat) = 1) = False from eq_false (by decide), show ((0 : Nat) = 2) = False from eq_false (by decide), show ((1 : Nat) = 0) = False from eq_false (by decide), show ((1 : Nat) = 2) = False from eq_false (by decide), show ((2 : Nat) = 0) = False from eq_false (by decide), show ((2 : Nat) = 1) = False from eq_false (by decide), if_true, if_false]
  clear e F
  grobner
theorem Four.image : dot m q g h (known 1) = P := by
  rw [F.dots (by decide)]
  simp only [show ((1 : Nat) = 0) = False from eq_false (by decide), show ((1 : Nat) = 2) = False from eq_false (by decide), if_true, if_false]
  clear F
  grobner
theorem Four.back (hd : Dom) (hz : ∀ j, j < 1 + 4 * m → s 3 * known 0 j + known 1 j + t 3 * known 2 j - told 3 j = 0) : ∀ i, i < 4 → ∀ j, j < 1 + 4 * m → told i j = s i * known 0 j + known 1 j + t i * known 2 j := by
  intro i hi j hj
  by_cases h3 : i = 3
  · subst h3
    have := hz j hj
    clear F hz
    grobner
  · have b := fun k (s' t' : Fq) hk => back3 hd (F.inv 0 (by decide)) (F.inv 1 (by decide)) (F.inv 2 (by decide)) (F.unl 0 1 (by decide) (by decide) (by decide)) (F.unl 0 2 (by decide) (by decide) (by decide)) (F.unl 1 2 (by decide) (by decide) (by decide)) (F.k0 0 (by decide)) (F.k1 0 (by decide)) (F.k2 0 (by decide)) (F.k0 1 (by decide)) (F.k1 1 (by decide)) (F.k2 1 (by decide)) (F.k0 2 (by decide)) (F.k1 2 (by decide)) (F.k2 2 (by decide)) (s := s') (t := t') (x1 := told 0 j) (x2 := told 1 j) (x3 := told 2 j) k hk
    rw [F.kn 0 j (by decide) hj, F.kn 1 j (by decide) hj, F.kn 2 j (by decide) hj]
    match i, hi, h3 with
    | 0, _, _ => exact (b 1 _ _ (.inl ⟨rfl, rfl, rfl⟩)).symm
    | 1, _, _ => exact (b 2 _ _ (.inr (.inl ⟨rfl, rfl, rfl⟩))).symm
    | 2, _, _ => exact (b 3 _ _ (.inr (.inr ⟨rfl, rfl, rfl⟩))).symm
    | 3, _, h => exact absurd rfl h
    | n + 4, h, _ => exact absurd h (by omega)
end
theorem Four.known_ab (hd : Dom) {m : Nat} {q l P r : Fq} {g h : Nat → Fq} {u v : Nat → Fq} {told K known : Nat → Nat → Fq} (F : Four m q l P r g h (fun i => u i * u i) (fun i => v i * v i) told K known) (huv : ∀ i, i < 4 → u i * v i = 1) {A B : Nat → Nat → Fq}
    (t0 : ∀ i, i < 4 → told i 0 = sF (fun j => A i j * B i j) m) (t1 : ∀ i j, i < 4 → j < m → told i (1 + j) = v i * A i j) (t2 : ∀ i j, i < 4 → j < m → told i (1 + m + j) = u i * A i j) (t3 : ∀ i j, i < 4 → j < m → told i (1 + 2 * m + j) = u i * B i j) (t4 : ∀ i j, i < 4 → j < m → told i (1 + 3 * m + j) = v i * B i j)
    (hz : ∀ j, j < 1 + 4 * m → u 3 * u 3 * known 0 j + known 1 j + v 3 * v 3 * known 2 j - told 3 j = 0) :
    known 1 0 = sF (fun j => known 1 (1 + j) * known 1 (1 + 2 * m + j) + known 1 (1 + m + j) * known 1 (1 + 3 * m + j)) m := by
  have hb := F.back hd hz
  exact inner hd m huv F.unl (l := known 0) (p := known 1) (r := known 2) (fun i hi => by rw [← t0 i hi]; exact hb i hi 0 (by omega)) (fun i j hi hj => by rw [← t1 i j hi hj]; exact hb i hi _ (by omega)) (fun i j hi hj => by rw [← t2 i j hi hj]; exact hb i hi _ (by omega)) (fun i j hi hj => by rw [← t3 i j hi hj]; exact hb i hi _ (by omega)) (fun i j hi hj => by rw [← t4 i j hi hj]; exact hb i hi _ (by omega))
theorem nons (hd : Dom) {s t : Nat → Fq} (hi : ∀ i, i < 3 → s i * t i = 1) (hu : ∀ i j, i < 3 → j < 3 → i ≠ j → s i ≠ s j) {M : Nat → Nat → Fq} (m0 : ∀ j, j < 3 → M 0 j = s j) (m1 : ∀ j, j < 3 → M 1 j = 1) (m2 : ∀ j, j < 3 → M 2 j = t j) (x : Nat → Fq) (hx : Sol M 0 x) : x 0 = 0 ∧ x 1 = 0 ∧ x 2 = 0 := by
  have a := hx 0 (by decide)
  have b := hx 1 (by decide)
  have c := hx 2 (by decide)
  unfold res at a b c
  rw [m0 0 (by decide), m0 1 (by decide), m0 2 (by decide)] at a
  rw [m1 0 (by decide), m1 1 (by decide), m1 2 (by decide)] at b
  rw [m2 0 (by decide), m2 1 (by decide), m2 2 (by decide)] at c
  refine ⟨vand hd (hi 1 (by decide)) (hi 0 (by decide)) (hi 2 (by decide)) (hu 1 0 (by decide) (by decide) (by decide)) (hu 0 2 (by decide) (by decide) (by decide)) (e1 := x 1) (e2 := x 0) (e3 := x 2) ?_ ?_ ?_, vand hd (hi 0 (by decide)) (hi 1 (by decide)) (hi 2 (by decide)) (hu 0 1 (by decide) (by decide) (by decide)) (hu 1 2 (by decide) (by decide) (by decide)) (e1 := x 0) (e2 := x 1) (e3 := x 2) ?_ ?_ ?_, vand hd (hi 0 (by decide)) (hi 2 (by decide)) (hi 1 (by decide)) (hu 0 2 (by decide) (by decide) (by decide)) (hu 2 1 (by decide) (by decide) (by decide)) (e1 := x 0) (e2 := x 2) (e3 := x 1) ?_ ?_ ?_⟩
  all_goals first | (clear b c; grobner) | (clear a c; grobner) | (clear a b; grobner)
end
section
def ph (x : Nat) : Fq := Fin.ofNat _ x
theorem ph_val (x : Nat) : (ph x).val = x % 7237005577332262213973186563042994240857116359379907606001950938285454250989 := rfl
theorem ph_mod (x : Nat) : ph (x % 7237005577332262213973186563042994240857116359379907606001950938285454250989) = ph x := Fin.ext (Nat.mod_mod _ _)
theorem ph_add (x y : Nat) : ph (x + y) = ph x + ph y := by
  apply Fin.ext
  rw [Fin.val_add, ph_val, ph_val, ph_val, Nat.add_mod]
theorem ph_mul (x y : Nat) : ph (x * y) = ph x * ph y := by
  apply Fin.ext
  rw [Fin.val_mul, ph_val, ph_val, ph_val, Nat.mul_mod]
theorem ph_zero : ph 0 = 0 := rfl
theorem ph_one : ph 1 = 1 := rfl
theorem ph_eq {x y : Nat} : ph x = ph y ↔ x % 7237005577332262213973186563042994240857116359379907606001950938285454250989 = y % 7237005577332262213973186563042994240857116359379907606001950938285454250989 := by
  constructor
  · intro h
    have := congrArg Fin.val h
    rwa [ph_val, ph_val] at this
  · intro h
    exact Fin.ext (by rw [ph_val, ph_val, h])
theorem ph_zero_iff {x : Nat} : ph x = 0 ↔ x % 7237005577332262213973186563042994240857116359379907606001950938285454250989 = 0 := by
  rw [← ph_zero, ph_eq]
theorem ph_neg (y : Nat) : ph (7237005577332262213973186563042994240857116359379907606001950938285454250989 - y % 7237005577332262213973186563042994240857116359379907606001950938285454250989) = 0 - ph y := by
  have h : ph (7237005577332262213973186563042994240857116359379907606001950938285454250989 - y % 7237005577332262213973186563042994240857116359379907606001950938285454250989) + ph y = 0 := by
    rw [← ph_mod y, ← ph_add, Nat.sub_add_cancel (Nat.le_of_lt (Nat.mod_lt _ (by decide)))]
    exact ph_zero_iff.2 (by decide)
  generalize ph (7237005577332262213973186563042994240857116359379907606001950938285454250989 - y % 7237005577332262213973186563042994240857116359379907606001950938285454250989) = a at *
  generalize ph y = b at *
  grobner
theorem ph_sub (x y : Nat) : ph (x + (7237005577332262213973186563042994240857116359379907606001950938285454250989 - y % 7237005577332262213973186563042994240857116359379907606001950938285454250989)) = ph x - ph y := by
  rw [ph_add, ph_neg]
  generalize ph x = a
  generalize ph y = b
  grobner
theorem ph_of (x : Fq) : ph x.val = x := Fin.ext (by rw [ph_val]; exact Nat.mod_eq_of_lt x.isLt)
theorem dom_of (h : ∀ x : Nat, x % 7237005577332262213973186563042994240857116359379907606001950938285454250989 ≠ 0 → ∃ y, y * x % 7237005577332262213973186563042994240857116359379907606001950938285454250989 = 1) : Dom := by
  intro x y e
  by_cases hx : x = 0
  · exact .inl hx
  · refine .inr ?_
    obtain ⟨z, hz⟩ := h x.val (fun e => hx (by rw [← ph_of x]; exact ph_zero_iff.2 e))
    have h1 : ph z * x = 1 := by
      have : ph (z * x.val) = ph 1 := ph_eq.2 hz
      rw [ph_mul, ph_of] at this
      exact this
    have : y = ph z * x * y := by rw [h1]; clear h1 e hz; grobner
    rw [this]
    have e2 : ph z * x * y = ph z * (x * y) := by clear this h1 e hz; grobner
    rw [e2, e]
    clear e2 this h1 e hz
    grobner
end
end Go.VsP
namespace Go.Vs.Tryd
open Go.Proofs
variable {G : Nat → List V}
set_option linter.unusedSimpArgs false
attribute [local go_sem] lenO_nils lenO_sl sliceAtV Int.sub_zero List.length_append List.all_append ge_iff_le gt_iff_lt Int.natCast_nonneg Int.toNat_natCast Nat.mul_one b_and_ll b_shr_ll b_mul_ll b_add_ll b_or_ll b_shl_ll pick_ll pick_lc pick_bb driveS stopV Option.isSome_some Option.isSome_none Kind.m Kind.w Kind.g look_ro look_rw look_grow drive stepV exo expo evs fillV isNil nilKind eqV eqL optA optM sliceAtV ev kn ldc stc splice appV srcV lenV setd wantV exitV rvs rv one List.length_cons List.length_nil List.cons_append List.nil_append List.append_nil List.replicate List.getD_cons_zero List.getD_cons_succ List.set_cons_zero List.set_cons_succ List.getElem?_cons_zero List.getElem?_cons_succ List.getElem?_nil List.take_succ_cons List.take_zero List.take_nil List.drop_succ_cons List.drop_zero List.drop_nil List.all_cons List.all_nil List.any_cons List.any_nil Bool.and_true Bool.true_and Bool.and_self Option.map_some Option.map_none Option.bind_some Option.some.injEq Nat.add_zero Nat.zero_add Int.toNat_zero Int.toNat_one Int.zero_add Int.add_zero if_true if_false ite_true ite_false and_true true_and and_self ne_eq not_false_eq_true not_true_eq_false decide_true decide_false Bool.false_eq_true Bool.not_true Bool.not_false beq_self_eq_true BEq.rfl Bool.not_eq_true Nat.le_refl Int.le_refl Nat.zero_le List.foldl List.map_cons List.map_nil Prod.mk.injEq Int.cast_ofNat_Int Int.zero_le_ofNat b_add_cc b_add_cl b_add_lc b_mul_cc b_mul_cl b_mul_lc b_sub_cc b_sub_cl b_sub_lc b_and_cc b_and_cl b_and_lc b_or_cc b_or_cl b_or_lc b_xor_cc b_xor_cl b_xor_lc b_andNot_cc b_andNot_cl b_andNot_lc b_shr_cc b_shr_cl b_shr_lc b_shl_cc b_shl_cl b_shl_lc b_lss b_leq b_gtr b_geq b_add_i b_sub_i b_mul_i beq_cc beq_cl beq_lc beq_ll b_quo_i b_rem_i neg_u64 wrap_i64 driveD stepD idsAt idOf maskH_nil restore_nil restore_mask List.filterMap_nil List.filterMap_cons VOp.looks VOp.makes exA cells_agg cells_int cells_bool cells_str cells_nilp cells_ptr cells_glob cells_nils cells_sl cells_nilf cells_fn cells_nili cells_ifc known_agg known_tup known_int known_bool known_str known_nilp known_ptr known_glob known_nils known_sl known_nilf known_fn known_nili known_ifc known_unk one_agg one_tup one_int one_bool one_str one_nilp one_ptr one_glob one_nils one_sl one_nilf one_fn one_nili one_ifc asK_int asN_int asB_bool asS_str asG_agg asT_tup true_or or_true false_or or_false
attribute [local go_sem_proc] Nat.reduceAdd Nat.reduceSub Nat.reduceLeDiff Nat.reduceMul Nat.reduceLT Nat.reduceEqDiff Int.reduceLT Int.reduceLE Int.reduceAdd Int.reduceSub Int.reduceMul Int.reduceToNat reduceIte reduceCtorEq Nat.reduceBEq
attribute [local go_sem ↓] lc_len lc_take lc_drop lc_known lc_one lc_rens lc_cells lw_known lw_agg lw_asG scs_known scs_one scs_len lc_take_add lc_drop_add
attribute [local go_sem] lt_nat lt_natl lt_lnat lt_ll bool_tf bool_ft
set_option maxRecDepth 100000
set_option maxHeartbeats 2000000
theorem m_isz : methV Tryd.prog 32 "IsZero" = some 14 := by kernel_rfl
noncomputable def rkf (Y : Nat → Nat) (k : Nat) (j : Nat) : Nat := Y j * linv (Y k) % ell
def elr (R X : Nat → Nat) (k : Nat) (j : Nat) : Nat := if X k % ell = 0 then X j else sb (X j) (X k * R j % ell)
theorem elr_lt {R X : Nat → Nat} {k : Nat} (h : ∀ j, X j < 115792089237316195423570985008687907853269984665640564039457584007913129639936) (j : Nat) : elr R X k j < 115792089237316195423570985008687907853269984665640564039457584007913129639936 := by
  unfold elr; split
  · exact h j
  · exact sb_lt ..
theorem rkf_lt (Y : Nat → Nat) (k j : Nat) : rkf Y k j < 115792089237316195423570985008687907853269984665640564039457584007913129639936 := mod_lt _
def mxf (A B : Nat → Nat) (j x : Nat) : Nat := if x < j then A x else B x
theorem mxf_0 (A B : Nat → Nat) : mxf A B 0 = B := rfl
theorem mxf_4 (A B : Nat → Nat) : scs 4 (mxf A B 4) = scs 4 A := scs_congr fun j hj => if_pos hj
theorem mxf_get (A B : Nat → Nat) {j : Nat} (hj : j < 4) : ((scs 4 (mxf A B j)).drop (j * 4)).take 4 = lc (B j) := by
  rw [scs_get' 4 _ hj, show mxf A B j j = B j from if_neg (Nat.lt_irrefl _)]
theorem mxf_set (A B : Nat → Nat) {j v : Nat} (hj : j < 4) (hv : A j = v) : (scs 4 (mxf A B j)).take (j * 4) ++ lc v ++ (scs 4 (mxf A B j)).drop (j * 4 + 4) = scs 4 (mxf A B (j + 1)) := by
  refine scs_set 4 _ _ hj ?_ fun x _ hx => ?_
  · unfold mxf; rw [if_pos (Nat.lt_succ_self j)]; exact hv
  · unfold mxf
    by_cases h : x < j
    · rw [if_pos h, if_pos (by omega)]
    · rw [if_neg h, if_neg (by omega)]
def rowsL (s : Nat → Nat) : List V := [.sl (s 0) 0 4 (.exact 4), .sl (s 1) 0 4 (.exact 4), .sl (s 2) 0 4 (.exact 4)]
theorem rowsL_len (s : Nat → Nat) : (rowsL s).length = 3 := rfl
theorem rowsL_known (s : Nat → Nat) : (rowsL s).all V.known = true := rfl
theorem rowsL_one (s : Nat → Nat) : (rowsL s).all V.one = true := rfl
theorem rowsL_get (s : Nat → Nat) {i : Nat} (h : i < 3) : ((rowsL s).drop i).take 1 = [.sl (s i) 0 4 (.exact 4)] := by
  match i, h with
  | 0, _ | 1, _ | 2, _ => rfl
  | n + 3, h => omega
def upd {α : Type} (Y : Nat → α) (a : Nat) (x : α) (b : Nat) : α := if b = a then x else Y b
theorem upd_same {α : Type} (Y : Nat → α) (a : Nat) (x : α) : upd Y a x a = x := if_pos rfl
theorem upd_ne {α : Type} (Y : Nat → α) {a b : Nat} (x : α) (h : b ≠ a) : upd Y a x b = Y b := if_neg h
theorem upd_upd {α : Type} (Y : Nat → α) (a : Nat) (x y : α) : upd (upd Y a x) a y = upd Y a y := by
  funext b; unfold upd; split <;> rfl
theorem upd_self {α : Type} (Y : Nat → α) (a : Nat) : upd Y a (Y a) = Y := by
  funext b; unfold upd; split
  · next h => rw [h]
  · rfl
theorem rowsL_set (s : Nat → Nat) {i x : Nat} (h : i < 3) : (rowsL s).take i ++ [.sl x 0 4 (.exact 4)] ++ (rowsL s).drop (i + 1) = rowsL (upd s i x) := by
  match i, h with
  | 0, _ | 1, _ | 2, _ => rfl
  | n + 3, h => omega
theorem rowsL_rens (f : Nat → Nat) (s : Nat → Nat) (h : ∀ c, c < 3 → f (s c) = s c) : rens f (rowsL s) = rowsL s := by
  simp only [rowsL, rens, ren, h 0 (by decide), h 1 (by decide), h 2 (by decide)]
def B3 (b : Nat) : Prop := b = 1 ∨ b = 2 ∨ b = 3
theorem lk4 (W : Nat → Nat → Nat) (X : Option Blk) {b : Nat} (h : B3 b) : [X, some ⟨.rw, scs 4 (W 1)⟩, some ⟨.rw, scs 4 (W 2)⟩, some ⟨.rw, scs 4 (W 3)⟩][b]? = some (some ⟨.rw, scs 4 (W b)⟩) := by
  rcases h with rfl | rfl | rfl <;> rfl
theorem lk5 (W : Nat → Nat → Nat) (X E : Option Blk) {b : Nat} (h : B3 b) : [X, some ⟨.rw, scs 4 (W 1)⟩, some ⟨.rw, scs 4 (W 2)⟩, some ⟨.rw, scs 4 (W 3)⟩, E][b]? = some (some ⟨.rw, scs 4 (W b)⟩) := by
  rcases h with rfl | rfl | rfl <;> rfl
theorem set5 (W : Nat → Nat → Nat) (X E : Option Blk) {b : Nat} (N : Nat → Nat) (h : B3 b) : [X, some ⟨.rw, scs 4 (W 1)⟩, some ⟨.rw, scs 4 (W 2)⟩, some ⟨.rw, scs 4 (W 3)⟩, E].set b (some ⟨.rw, scs 4 N⟩) = [X, some ⟨.rw, scs 4 (upd W b N 1)⟩, some ⟨.rw, scs 4 (upd W b N 2)⟩, some ⟨.rw, scs 4 (upd W b N 3)⟩, E] := by
  rcases h with rfl | rfl | rfl <;> rfl
theorem gm_b3 {g : Nat → Nat} (h1 : g 1 = 1) (h2 : g 2 = 2) (h3 : g 3 = 3) {b : Nat} (h : B3 b) : g b = b := by
  rcases h with rfl | rfl | rfl <;> assumption
attribute [local go_sem ↓] rowsL_len rowsL_known rowsL_one
theorem rs_ (hG : G 0 = tbl) (k i : Nat) (hk : k < 3) (hi : i < 3) (hik : i ≠ k) (s : Nat → Nat) (hs : ∀ c, c < 3 → B3 (s c)) (hsk : s k ≠ s i) (Y : Nat → Nat → Nat) (hY : ∀ b j, Y b j < 115792089237316195423570985008687907853269984665640564039457584007913129639936) {Q : V → Heap → Prop} (next : RunM Tryd.prog G 37 4 {} Q ([TI.l v37_32, TI.b 4], ⟨[.sl 0 0 3 (.exact 3), .int .i64 (k : Nat)] ++ List.replicate 81 .unk ++ [.sl 0 0 3 (.exact 3), .int .i64 (3 : Nat), .int .i64 (i + 1 : Nat)] ++ List.replicate 45 .unk, [some ⟨.rw, rowsL s⟩, some ⟨.rw, scs 4 (upd Y (s i) (elr (Y (s k)) (Y (s i)) k) 1)⟩, some ⟨.rw, scs 4 (upd Y (s i) (elr (Y (s k)) (Y (s i)) k) 2)⟩, some ⟨.rw, scs 4 (upd Y (s i) (elr (Y (s k)) (Y (s i)) k) 3)⟩]⟩)) : RunM Tryd.prog G 37 4 {} Q ([TI.l v37_32, TI.b 4], ⟨[.sl 0 0 3 (.exact 3), .int .i64 (k : Nat)] ++ List.replicate 81 .unk ++ [.sl 0 0 3 (.exact 3), .int .i64 (3 : Nat), .int .i64 (i : Nat)] ++ List.replicate 45 .unk, [some ⟨.rw, rowsL s⟩, some ⟨.rw, scs 4 (Y 1)⟩, some ⟨.rw, scs 4 (Y 2)⟩, some ⟨.rw, scs 4 (Y 3)⟩]⟩) := by
  have lk := lk4 Y (some ⟨.rw, rowsL s⟩) (hs i hi)
  have ri := rowsL_get s hi
  have rk := rowsL_get s hk
  have h0 : ((i : Int) < 3) = True := eq_true (by omega)
  have k0 : ((k : Int) < 4) = True := eq_true (by omega)
  have k3 : ((k : Int) < 3) = True := eq_true (by omega)
  have kin : (k * 4 ≤ 12) = True := eq_true (by omega)
  have iin : (i ≤ 2) = True := eq_true (by omega)
  have kin2 : (k ≤ 2) = True := eq_true (by omega)
  have w1 : IntKind.i64.wrap ((i : Int) + 1) = ((i + 1 : Nat) : Int) := by rw [wrap_i64 (by omega) (by omega)]; omega
  have ne : ((i : Int) == (k : Int)) = false := by rw [beq_eq_false_iff_ne]; omega
  have gX := scs_get' 4 (Y (s i)) (i := k) (by omega)
  refine run_loop_eq v37_32.eq_1 ?_
  refine run_driveS 80 ?_
  simp only [go_sem, v37_18, v37_30, v37_19, h0, ri, iin]
  refine run_driveS 80 ?_
  simp only [go_sem, v37_20, ne, lk, k0, gX, kin]
  refine run_call' rfl ?_
  simp only [go_sem, calV, m_isz]
  refine is_zero' hG _ (hY (s i) k) ?_
  by_cases hz : Y (s i) k % ell = 0
  · rw [decide_eq_true hz]
    have e : elr (Y (s k)) (Y (s i)) k = Y (s i) := funext fun j => if_pos hz
    rw [e, upd_self] at next
    refine run_driveS 80 ?_
    simp only [go_sem]
    refine run_cond_t (by rfl) ?_
    refine run_exit rfl ?_
    refine run_driveS 80 ?_
    simp only [go_sem, v37_31, w1]
    refine run_rename [0, 1, 2, 3] rfl (by simp) ?_ (uniq_nodup' (by decide)) ?_ next
    · exact hfit_cons rfl (jb_g (rowsL_rens _ _ fun c hc => gm_b3 rfl rfl rfl (hs c hc))) (hfit_cons rfl (jb_g (scs_rens ..)) (hfit_cons rfl (jb_g (scs_rens ..)) (hfit_cons rfl (jb_g (scs_rens ..)) hfit_nil)))
    · simp only [go_sem, fit, ren, gmap, true_or, or_true]
  · rw [decide_eq_false hz]
    refine run_driveS 80 ?_
    simp only [go_sem]
    refine run_cond_f (by rfl) ?_
    refine run_driveS 80 ?_
    simp only [go_sem, v37_21, v37_22, v37_29, lk, k0, gX, kin]
    refine run_rename [0, 1, 2, 3, 4] (st' := ⟨[.sl 0 0 3 (.exact 3), .int .i64 (k : Nat)] ++ List.replicate 6 .unk ++ [.sl (s i) 0 4 (.exact 4), .ptr 4 0] ++ List.replicate 73 .unk ++ [.sl 0 0 3 (.exact 3), .int .i64 (3 : Nat), .int .i64 (i : Nat)] ++ List.replicate 20 .unk ++ [.int .i64 (4 : Nat), .int .i64 (0 : Nat)] ++ List.replicate 23 .unk, [some ⟨.rw, rowsL s⟩, some ⟨.rw, scs 4 ((upd Y (s i) (mxf (fun x => sb (Y (s i) x) (Y (s i) k * Y (s k) x % ell)) (Y (s i)) 0)) 1)⟩, some ⟨.rw, scs 4 ((upd Y (s i) (mxf (fun x => sb (Y (s i) x) (Y (s i) k * Y (s k) x % ell)) (Y (s i)) 0)) 2)⟩, some ⟨.rw, scs 4 ((upd Y (s i) (mxf (fun x => sb (Y (s i) x) (Y (s i) k * Y (s k) x % ell)) (Y (s i)) 0)) 3)⟩, some ⟨.rw, lc (Y (s i) k)⟩]⟩) rfl (by simp) ?_ (uniq_nodup' (by decide)) ?_ (run_for (fun j => ⟨[.sl 0 0 3 (.exact 3), .int .i64 (k : Nat)] ++ List.replicate 6 .unk ++ [.sl (s i) 0 4 (.exact 4), .ptr 4 0] ++ List.replicate 73 .unk ++ [.sl 0 0 3 (.exact 3), .int .i64 (3 : Nat), .int .i64 (i : Nat)] ++ List.replicate 20 .unk ++ [.int .i64 (4 : Nat), .int .i64 (j : Nat)] ++ List.replicate 23 .unk, [some ⟨.rw, rowsL s⟩, some ⟨.rw, scs 4 ((upd Y (s i) (mxf (fun x => sb (Y (s i) x) (Y (s i) k * Y (s k) x % ell)) (Y (s i)) j)) 1)⟩, some ⟨.rw, scs 4 ((upd Y (s i) (mxf (fun x => sb (Y (s i) x) (Y (s i) k * Y (s k) x % ell)) (Y (s i)) j)) 2)⟩, some ⟨.rw, scs 4 ((upd Y (s i) (mxf (fun x => sb (Y (s i) x) (Y (s i) k * Y (s k) x % ell)) (Y (s i)) j)) 3)⟩, some ⟨.rw, lc (Y (s i) k)⟩]⟩) 4 (fun j hj jh => ?_) ?_)
    · rw [mxf_0, upd_self]
      exact hfit_cons rfl (jb_g (rowsL_rens _ _ fun c hc => gm_b3 rfl rfl rfl (hs c hc))) (hfit_cons rfl (jb_g (scs_rens ..)) (hfit_cons rfl (jb_g (scs_rens ..)) (hfit_cons rfl (jb_g (scs_rens ..)) (hfit_cons rfl (jb_g (lc_rens ..)) hfit_nil))))
    · simp only [go_sem, fit, ren, gmap, true_or, or_true]
      exact (congrArg (fun b => V.sl b 0 4 (.exact 4)) (gm_b3 (g := gmap [0, 1, 2, 3, 4] 5) rfl rfl rfl (hs i hi))).symm
    · have j0 : ((j : Int) < 4) = True := eq_true (by omega)
      have hw : IntKind.i64.wrap ((j : Int) + 1) = ((j + 1 : Nat) : Int) := by rw [wrap_i64 (by omega) (by omega)]; omega
      have g1 := mxf_get (fun x => sb (Y (s i) x) (Y (s i) k * Y (s k) x % ell)) (Y (s i)) hj
      have g2 := scs_get' 4 (Y (s k)) (i := j) hj
      have in1 : (j * 4 ≤ 12) = True := eq_true (by omega)
      have u1 := upd_same Y (s i) (mxf (fun x => sb (Y (s i) x) (Y (s i) k * Y (s k) x % ell)) (Y (s i)) j)
      have u2 := upd_ne Y (mxf (fun x => sb (Y (s i) x) (Y (s i) k * Y (s k) x % ell)) (Y (s i)) j) hsk
      have l1 := lk5 (upd Y (s i) (mxf (fun x => sb (Y (s i) x) (Y (s i) k * Y (s k) x % ell)) (Y (s i)) j)) (some ⟨.rw, rowsL s⟩) (some ⟨.rw, lc (Y (s i) k)⟩) (hs i hi)
      have l2 := lk5 (upd Y (s i) (mxf (fun x => sb (Y (s i) x) (Y (s i) k * Y (s k) x % ell)) (Y (s i)) j)) (some ⟨.rw, rowsL s⟩) (some ⟨.rw, lc (Y (s i) k)⟩) (hs k hk)
      rw [u1] at l1
      rw [u2] at l2
      have st := mxf_set (fun x => sb (Y (s i) x) (Y (s i) k * Y (s k) x % ell)) (Y (s i)) hj (v := (Y (s i) j + (ell - Y (s i) k * Y (s k) j % ell % ell)) % ell) rfl
      have s1 := set5 (upd Y (s i) (mxf (fun x => sb (Y (s i) x) (Y (s i) k * Y (s k) x % ell)) (Y (s i)) j)) (some ⟨.rw, rowsL s⟩) (some ⟨.rw, lc (Y (s i) k)⟩) (mxf (fun x => sb (Y (s i) x) (Y (s i) k * Y (s k) x % ell)) (Y (s i)) (j + 1)) (hs i hi)
      rw [upd_upd] at s1
      refine run_loop_eq v37_28.eq_1 ?_
      refine run_driveS 80 ?_
      simp only [go_sem, v37_23, v37_26, v37_24, j0]
      refine run_drw (by kernel_rfl) ?_
      refine drun_drive 40 (p := (_, _)) ?_
      simp only [go_sem, v37_25, j0, k3, kin2, g1, g2, l1, l2, rk, in1]
      refine drun_call' ?_
      simp only [go_sem, calV, m_mulS]
      refine mul' hG _ _ (hY _ _) (hY _ _) ?_
      refine drun_drive 40 (p := (_, _)) ?_
      simp only [go_sem]
      refine drun_call' ?_
      simp only [go_sem, calV, m_subS]
      refine sub_ hG _ _ (hY _ _) (mod_lt _) ?_
      refine drun_drive 40 (p := (_, _)) ?_
      simp only [go_sem, j0, in1, l1, st, s1]
      refine drun_end ?_
      refine run_driveS 80 ?_
      simp only [go_sem, v37_27, hw]
      refine run_rename [0, 1, 2, 3, 4] rfl (by simp) ?_ (uniq_nodup' (by decide)) ?_ jh
      · exact hfit_cons rfl (jb_g (rowsL_rens _ _ fun c hc => gm_b3 rfl rfl rfl (hs c hc))) (hfit_cons rfl (jb_g (scs_rens ..)) (hfit_cons rfl (jb_g (scs_rens ..)) (hfit_cons rfl (jb_g (scs_rens ..)) (hfit_cons rfl (jb_g (lc_rens ..)) hfit_nil))))
      · simp only [go_sem, fit, ren, gmap, true_or, or_true]
        exact (congrArg (fun b => V.sl b 0 4 (.exact 4)) (gm_b3 (g := gmap [0, 1, 2, 3, 4] 5) rfl rfl rfl (hs i hi))).symm
    · have e : elr (Y (s k)) (Y (s i)) k = (fun x => sb (Y (s i) x) (Y (s i) k * Y (s k) x % ell)) := funext fun j => if_neg hz
      rw [e] at next
      have e4 : ∀ b, scs 4 (upd Y (s i) (mxf (fun x => sb (Y (s i) x) (Y (s i) k * Y (s k) x % ell)) (Y (s i)) 4) b) = scs 4 (upd Y (s i) (fun x => sb (Y (s i) x) (Y (s i) k * Y (s k) x % ell)) b) := fun b => by
        unfold upd; split
        · exact mxf_4 _ _
        · rfl
      rw [e4, e4, e4]
      refine run_loop_eq v37_28.eq_1 ?_
      refine run_driveS 80 ?_
      simp only [go_sem, v37_23]
      refine run_exit rfl ?_
      refine run_driveS 80 ?_
      simp only [go_sem, v37_31, w1]
      refine run_rename [0, 1, 2, 3] rfl (by simp) ?_ (uniq_nodup' (by decide)) ?_ next
      · exact hfit_cons rfl (jb_g (rowsL_rens _ _ fun c hc => gm_b3 rfl rfl rfl (hs c hc))) (hfit_cons rfl (jb_g (scs_rens ..)) (hfit_cons rfl (jb_g (scs_rens ..)) (hfit_cons rfl (jb_g (scs_rens ..)) hfit_nil)))
      · simp only [go_sem, fit, ren, gmap, true_or, or_true]
end Go.Vs.Tryd
namespace Go.Vs
theorem pigeon : ∀ (m t : Nat) (g : Nat → Nat), (∀ c, c < t → g c < m) → (∀ c d, c < t → d < t → g c = g d → c = d) → t ≤ m
  | 0, t, g, h, _ => by
    cases t with
    | zero => exact Nat.le_refl _
    | succ t => exact absurd (h 0 (Nat.succ_pos _)) (Nat.not_lt_zero _)
  | m + 1, 0, _, _, _ => Nat.zero_le _
  | m + 1, t + 1, g, h, hi => by
    have := pigeon m t (fun c => if g c = m then g t else g c) (fun c hc => by
      have h1 := h c (by omega)
      have h2 := h t (by omega)
      by_cases e : g c = m
      · simp only [if_pos e]
        have : g t ≠ m := fun e' => by have := hi c t (by omega) (by omega) (e.trans e'.symm); omega
        omega
      · simp only [if_neg e]; omega) (fun c d hc hd e => by
      by_cases e1 : g c = m
      · by_cases e2 : g d = m
        · exact hi c d (by omega) (by omega) (e1.trans e2.symm)
        · simp only [if_pos e1, if_neg e2] at e
          have := hi t d (by omega) (by omega) e
          omega
      · by_cases e2 : g d = m
        · simp only [if_neg e1, if_pos e2] at e
          have := hi c t (by omega) (by omega) e
          omega
        · simp only [if_neg e1, if_neg e2] at e
          exact hi c d (by omega) (by omega) e)
    omega
theorem few {q : Nat} (hq : 4000000 ≤ q) {m t : Nat} (f : Nat → Nat) (ht : t ≤ 1000) (h : ∀ c, c < t → ∃ j, j < m ∧ f j * f j % q = (2 + c) * (2 + c) % q) : t ≤ m := by
  have sm : ∀ c, c < t → (2 + c) * (2 + c) < q := fun c hc => by
    have : (2 + c) * (2 + c) ≤ 1002 * 1002 := Nat.mul_le_mul (by omega) (by omega)
    omega
  refine pigeon m t (fun c => if hc : c < t then Classical.choose (h c hc) else 0) (fun c hc => ?_) fun c d hc hd e => ?_
  · simp only [dif_pos hc]
    exact (Classical.choose_spec (h c hc)).1
  · simp only [dif_pos hc, dif_pos hd] at e
    have h1 := (Classical.choose_spec (h c hc)).2
    have h2 := (Classical.choose_spec (h d hd)).2
    rw [e, h2, Nat.mod_eq_of_lt (sm d hd), Nat.mod_eq_of_lt (sm c hc)] at h1
    rcases Nat.lt_trichotomy c d with hlt | he | hlt
    · have := Nat.mul_lt_mul'' (show 2 + c < 2 + d by omega) (show 2 + c < 2 + d by omega)
      omega
    · exact he
    · have := Nat.mul_lt_mul'' (show 2 + d < 2 + c by omega) (show 2 + d < 2 + c by omega)
      omega
end Go.Vs
namespace Go.Vs.Tryd
open Go.Proofs
variable {G : Nat → List V}
set_option linter.unusedSimpArgs false
attribute [local go_sem] lenO_nils lenO_sl sliceAtV Int.sub_zero List.length_append List.all_append ge_iff_le gt_iff_lt Int.natCast_nonneg Int.toNat_natCast Nat.mul_one b_and_ll b_shr_ll b_mul_ll b_add_ll b_or_ll b_shl_ll pick_ll pick_lc pick_bb driveS stopV Option.isSome_some Option.isSome_none Kind.m Kind.w Kind.g look_ro look_rw look_grow drive stepV exo expo evs fillV isNil nilKind eqV eqL optA optM sliceAtV ev kn ldc stc splice appV srcV lenV setd wantV exitV rvs rv one List.length_cons List.length_nil List.cons_append List.nil_append List.append_nil List.replicate List.getD_cons_zero List.getD_cons_succ List.set_cons_zero List.set_cons_succ List.getElem?_cons_zero List.getElem?_cons_succ List.getElem?_nil List.take_succ_cons List.take_zero List.take_nil List.drop_succ_cons List.drop_zero List.drop_nil List.all_cons List.all_nil List.any_cons List.any_nil Bool.and_true Bool.true_and Bool.and_self Option.map_some Option.map_none Option.bind_some Option.some.injEq Nat.add_zero Nat.zero_add Int.toNat_zero Int.toNat_one Int.zero_add Int.add_zero if_true if_false ite_true ite_false and_true true_and and_self ne_eq not_false_eq_true not_true_eq_false decide_true decide_false Bool.false_eq_true Bool.not_true Bool.not_false beq_self_eq_true BEq.rfl Bool.not_eq_true Nat.le_refl Int.le_refl Nat.zero_le List.foldl List.map_cons List.map_nil Prod.mk.injEq Int.cast_ofNat_Int Int.zero_le_ofNat b_add_cc b_add_cl b_add_lc b_mul_cc b_mul_cl b_mul_lc b_sub_cc b_sub_cl b_sub_lc b_and_cc b_and_cl b_and_lc b_or_cc b_or_cl b_or_lc b_xor_cc b_xor_cl b_xor_lc b_andNot_cc b_andNot_cl b_andNot_lc b_shr_cc b_shr_cl b_shr_lc b_shl_cc b_shl_cl b_shl_lc b_lss b_leq b_gtr b_geq b_add_i b_sub_i b_mul_i beq_cc beq_cl beq_lc beq_ll b_quo_i b_rem_i neg_u64 wrap_i64 driveD stepD idsAt idOf maskH_nil restore_nil restore_mask List.filterMap_nil List.filterMap_cons VOp.looks VOp.makes exA cells_agg cells_int cells_bool cells_str cells_nilp cells_ptr cells_glob cells_nils cells_sl cells_nilf cells_fn cells_nili cells_ifc known_agg known_tup known_int known_bool known_str known_nilp known_ptr known_glob known_nils known_sl known_nilf known_fn known_nili known_ifc known_unk one_agg one_tup one_int one_bool one_str one_nilp one_ptr one_glob one_nils one_sl one_nilf one_fn one_nili one_ifc asK_int asN_int asB_bool asS_str asG_agg asT_tup true_or or_true false_or or_false
attribute [local go_sem_proc] Nat.reduceAdd Nat.reduceSub Nat.reduceLeDiff Nat.reduceMul Nat.reduceLT Nat.reduceEqDiff Int.reduceLT Int.reduceLE Int.reduceAdd Int.reduceSub Int.reduceMul Int.reduceToNat reduceIte reduceCtorEq Nat.reduceBEq
section
attribute [local go_sem ↓] lc_len lc_take lc_drop lc_known lc_one lc_rens lc_cells lw_known lw_agg lw_asG scs_known scs_one scs_len lc_take_add lc_drop_add lenO_dv dv_known dv_one dv_ren
attribute [local go_sem] lt_nat lt_natl lt_lnat lt_ll bool_tf bool_ft
set_option maxRecDepth 100000
set_option maxHeartbeats 2000000
theorem same_ (hG : G 0 = tbl) (A B : Nat) (hA : A < 115792089237316195423570985008687907853269984665640564039457584007913129639936) (hB : B < 115792089237316195423570985008687907853269984665640564039457584007913129639936) {h : Heap} {R : V → Heap → Prop} (hQ : R (.bool (decide (A % ell = B % ell))) h) : VCall Tryd.prog G 17 [lw A, lw B] h R := by
  refine vcall_plain (Q := fun v => v = .bool (decide (A % ell = B % ell))) ?_ (fun g => by simp only [rens, lw_plain, ew_plain, ren]) (fun v g hv => by subst hv; exact rfl) (fun v hv => by subst hv; exact hQ)
  refine vcall_body Tryd.func17 nm17 code17 nt17 ?_
  have q := lc_eqL (mod_lt A) (mod_lt B)
  refine run_driveS 80 ?_
  simp only [go_sem, v17, v17_0]
  refine run_drw (by kernel_rfl) ?_
  refine drun_drive 40 (p := (_, _)) ?_
  simp only [go_sem, v17_1, restore, Option.join_some, maskH, List.mapIdx_cons, List.mapIdx_nil, List.contains_cons, List.contains_nil, Bool.or_false, Bool.or_true, Bool.false_or, Bool.true_or, Nat.reduceBEq]
  refine drun_call' ?_
  simp only [go_sem, calV, restore, Option.join_some, maskH, List.mapIdx_cons, List.mapIdx_nil, List.contains_cons, List.contains_nil, Bool.or_false, Bool.or_true, Bool.false_or, Bool.true_or, Nat.reduceBEq]
  refine least' hG A hA ?_
  refine drun_drive 40 (p := (_, _)) ?_
  simp only [go_sem, restore, Option.join_some, maskH, List.mapIdx_cons, List.mapIdx_nil, List.contains_cons, List.contains_nil, Bool.or_false, Bool.or_true, Bool.false_or, Bool.true_or, Nat.reduceBEq]
  refine drun_call' ?_
  simp only [go_sem, calV, restore, Option.join_some, maskH, List.mapIdx_cons, List.mapIdx_nil, List.contains_cons, List.contains_nil, Bool.or_false, Bool.or_true, Bool.false_or, Bool.true_or, Nat.reduceBEq]
  refine least' hG B hB ?_
  refine drun_drive 40 (p := (_, _)) ?_
  simp only [go_sem, q, restore, Option.join_some, maskH, List.mapIdx_cons, List.mapIdx_nil, List.contains_cons, List.contains_nil, Bool.or_false, Bool.or_true, Bool.false_or, Bool.true_or, Nat.reduceBEq]
  refine drun_end ?_
  refine run_driveS 80 ?_
  simp only [go_sem]
  refine run_ret_drop Tryd.func17 res17 [] (.bool (decide (A % ell = B % ell))) [] rfl (by simp) trivial (by simp [uniq]) ?_ ⟨rfl, rfl⟩
  simp only [go_sem, rr17, lw_plain, ew_plain, ren]
theorem run_inv {P : Program} {f : FuncId} {n : Nat} {md : Md} {Q : V → Heap → Prop} {k : List TI} {α : Type} (S : α → St) (I : α → Prop) (μ : α → Nat) (step : ∀ a, I a → (∀ b, I b → μ b < μ a → RunM P G f n md Q (k, S b)) → RunM P G f n md Q (k, S a)) (a : α) (ha : I a) : RunM P G f n md Q (k, S a) := by
  have : ∀ m a, μ a ≤ m → I a → RunM P G f n md Q (k, S a) := by
    intro m
    induction m with
    | zero => intro a h1 h2; exact step a h2 fun b _ h => absurd h (by omega)
    | succ m ih => intro a h1 h2; exact step a h2 fun b hb h => ih b (by omega) hb
  exact this _ a (Nat.le_refl _) ha
theorem run_join {P : Program} {f : FuncId} {n : Nat} {md : Md} {Q : V → Heap → Prop} {k0 : List TI} {st : St} {α : Type} {S : α → St} {I : α → Prop} {k : List TI} (use : (∀ a, I a → RunM P G f n md Q (k, S a)) → RunM P G f n md Q (k0, st)) (tail : ∀ a, I a → RunM P G f n md Q (k, S a)) : RunM P G f n md Q (k0, st) := use tail
def okU (u : Nat) (o : Nat → Nat) : Nat → Bool
  | 0 => !decide (u % ell = 0)
  | j + 1 => okU u o j && !decide (o j * o j % ell % ell = u * u % ell % ell)
theorem okU_true {u : Nat} {o : Nat → Nat} : ∀ {T : Nat}, okU u o T = true → u % ell ≠ 0 ∧ ∀ j, j < T → o j * o j % ell ≠ u * u % ell
  | 0, h => ⟨by simpa [okU] using h, fun j hj => absurd hj (by omega)⟩
  | T + 1, h => by
    simp only [okU, Bool.and_eq_true, Bool.not_eq_true', decide_eq_false_iff_not] at h
    obtain ⟨h1, h2⟩ := h
    obtain ⟨a, b⟩ := okU_true h1
    refine ⟨a, fun j hj => ?_⟩
    rcases Nat.lt_or_ge j T with h | h
    · exact b j h
    · obtain rfl : j = T := by omega
      rw [Nat.mod_mod, Nat.mod_mod] at h2
      exact h2
theorem okU_false {u : Nat} {o : Nat → Nat} : ∀ {T : Nat}, okU u o T = false → u % ell = 0 ∨ ∃ j, j < T ∧ o j * o j % ell = u * u % ell
  | 0, h => .inl (by simpa [okU] using h)
  | T + 1, h => by
    simp only [okU, Bool.and_eq_false_iff, Bool.not_eq_false', decide_eq_true_eq] at h
    rcases h with h | h
    · rcases okU_false h with h | ⟨j, h1, h2⟩
      · exact .inl h
      · exact .inr ⟨j, by omega, h2⟩
    · rw [Nat.mod_mod, Nat.mod_mod] at h
      exact .inr ⟨T, by omega, h⟩
structure Un (f : Nat → Nat) (N : Nat) (a : Nat × Nat × (Nat → Nat)) : Prop where
  t4 : a.2.1 ≤ 4
  iN : a.1 ≤ N + 1000
  lt : ∀ j, a.2.2 j < 115792089237316195423570985008687907853269984665640564039457584007913129639936
  nz : ∀ j, j < a.2.1 → a.2.2 j % ell ≠ 0
  un : ∀ j k, j < a.2.1 → k < a.2.1 → j ≠ k → a.2.2 j * a.2.2 j % ell ≠ a.2.2 k * a.2.2 k % ell
  tr : ∀ c, N + c < a.1 → ∃ j, j < a.2.1 ∧ a.2.2 j * a.2.2 j % ell = (2 + c) * (2 + c) % ell
theorem un_small {f : Nat → Nat} {N T : Nat} {o : Nat → Nat} (h : Un f N (N + 1000, T, o)) : T = 4 := by
  have h1 := few (q := ell) (by decide) (m := T) (t := 1000) o (by decide) fun c hc => h.tr c (by show N + c < N + 1000; omega)
  have := h.t4
  simp only at this
  omega
def put (o : Nat → Nat) (T u : Nat) (j : Nat) : Nat := if j = T then u else o j
theorem un_put {f : Nat → Nat} {N i T u : Nat} {o : Nat → Nat} (h : Un f N (i, T, o)) (hT : T < 4) (hi : i < N + 1000) (hu : u < 115792089237316195423570985008687907853269984665640564039457584007913129639936) (hv : N ≤ i → u = 2 + (i - N)) (hok : okU u o T = true) : Un f N (i + 1, T + 1, put o T u) := by
  obtain ⟨z, w⟩ := okU_true hok
  refine ⟨?_, ?_, fun j => ?_, fun j hj => ?_, fun j k hj hk hjk => ?_, fun c hc => ?_⟩
  · show T + 1 ≤ 4; omega
  · show i + 1 ≤ N + 1000; omega
  · show put o T u j < 115792089237316195423570985008687907853269984665640564039457584007913129639936
    unfold put; split
    · exact hu
    · exact h.lt j
  · show put o T u j % ell ≠ 0
    have hj : j < T + 1 := hj
    unfold put; split
    · exact z
    · exact h.nz j (by show j < T; omega)
  · show put o T u j * put o T u j % ell ≠ put o T u k * put o T u k % ell
    have hj : j < T + 1 := hj
    have hk : k < T + 1 := hk
    unfold put
    split <;> split
    · omega
    · exact fun e => w k (by omega) e.symm
    · exact w j (by omega)
    · exact h.un j k (by show j < T; omega) (by show k < T; omega) hjk
  · show ∃ j, j < T + 1 ∧ put o T u j * put o T u j % ell = (2 + c) * (2 + c) % ell
    have hc : N + c < i + 1 := hc
    rcases Nat.lt_or_ge (N + c) i with h1 | h1
    · obtain ⟨j, a, b⟩ := h.tr c h1
      have a : j < T := a
      exact ⟨j, by omega, by unfold put; rw [if_neg (by omega)]; exact b⟩
    · refine ⟨T, by omega, ?_⟩
      unfold put
      rw [if_pos rfl, hv (by omega), show i - N = c by omega]
theorem un_skip {f : Nat → Nat} {N i T u : Nat} {o : Nat → Nat} (h : Un f N (i, T, o)) (hi : i < N + 1000) (hv : N ≤ i → u = 2 + (i - N)) (hok : okU u o T = false) : Un f N (i + 1, T, o) := by
  refine ⟨h.t4, ?_, h.lt, h.nz, h.un, fun c hc => ?_⟩
  · show i + 1 ≤ N + 1000; omega
  · show ∃ j, j < T ∧ o j * o j % ell = (2 + c) * (2 + c) % ell
    have hc : N + c < i + 1 := hc
    rcases Nat.lt_or_ge (N + c) i with h1 | h1
    · exact h.tr c h1
    · have hu := hv (by omega)
      rw [show i - N = c by omega] at hu
      rcases okU_false hok with e | e
      · subst hu
        rw [Nat.mod_eq_of_lt (Nat.lt_trans (show 2 + c < 2000 by omega) (by decide))] at e
        omega
      · rw [hu] at e; exact e
theorem scs_put (o : Nat → Nat) (T u : Nat) : scs T o ++ lc u = scs (T + 1) (put o T u) := by
  show scs T o ++ lc u = scs T (put o T u) ++ lc (put o T u T)
  rw [show put o T u T = u from if_pos rfl]
  congr 1
  exact scs_congr fun j hj => by unfold put; rw [if_neg (by omega)]
theorem db_bfit (g : Nat → Nat) (o : Nat → Nat) (T : Nat) : bfit g (db o T) (db o T) := by
  unfold db
  split
  · trivial
  · exact jb_g (scs_rens ..)
theorem unlike_ (hG : G 0 = tbl) (f : Nat → Nat) (hf : ∀ j, f j < 115792089237316195423570985008687907853269984665640564039457584007913129639936) (N : Nat) (hN : N < 9223372036854774000) (uv : V) (b0 : Option Blk) (hi : In f N uv b0) {Q : V → Heap → Prop}
    (hQ : ∀ o : Nat → Nat, (∀ j, o j < 115792089237316195423570985008687907853269984665640564039457584007913129639936) → (∀ j, j < 4 → o j % ell ≠ 0) → (∀ j k, j < 4 → k < 4 → j ≠ k → o j * o j % ell ≠ o k * o k % ell) → Q (.sl 1 0 4 (.grow 4)) [b0, some ⟨.grow, scs 4 o⟩]) : VCall Tryd.prog G 8 [uv] [b0] Q := by
  have hb0 : ∀ g, bfit g b0 b0 := fun g => by cases hi with
    | nil => trivial
    | sl m h => exact bfit_same (scs_rens ..)
  have hlen : lenO uv = some N := by cases hi <;> rfl
  have hkn : uv.known = true := by cases hi <;> rfl
  have hone : uv.one = true := by cases hi <;> rfl
  have hru : ∀ g : Nat → Nat, g 0 = 0 → ren g uv = uv := fun g hg => by cases hi <;> simp [ren, hg]
  have hrs : ∀ (μ : List Nat) L, ren (gmap (0 :: μ) L) uv = uv := fun μ L => hru _ rfl
  have hw1 : IntKind.i64.wrap ((N : Int) + 1000) = ((N + 1000 : Nat) : Int) := by rw [wrap_i64 (by omega) (by omega)]; omega
  refine vcall_body Tryd.func8 nm8 code8 nt8 ?_
  refine run_driveS 80 ?_
  simp only [go_sem, v8, v8_0, v8_1, v8_2, v8_3, v8_22, hkn]
  refine run_rename [0, 1] (st' := ⟨[uv, .unk, .nils, dv 1 0, .int .u64 ((2 + (0 - N) : Nat) : Int), .int .i64 (0 : Nat)] ++ List.replicate 66 .unk, [b0, db (fun _ => 0) 0]⟩) rfl (by simp) ?_ (uniq_nodup' (by decide)) ?_ (run_inv (fun a : Nat × Nat × (Nat → Nat) => ⟨[uv, .unk, .nils, dv 1 a.2.1, .int .u64 ((2 + (a.1 - N) : Nat) : Int), .int .i64 (a.1 : Nat)] ++ List.replicate 66 .unk, [b0, db a.2.2 a.2.1]⟩) (Un f N) (fun a => N + 1000 - a.1) ?_ (0, 0, fun _ => 0) ?_)
  · exact hfit_cons rfl (hb0 _) (hfit_cons_none hfit_nil)
  · rw [dv_zero', Nat.zero_sub]
    simp only [go_sem, hfit, lc_fit, scs_fit, fit, ren, gmap, lw_plain, true_or, or_true, hrs]
    rfl
  · rintro ⟨i, T, o⟩ hI K
    have t4 : T ≤ 4 := hI.t4
    have iN : i ≤ N + 1000 := hI.iN
    have hlt : ∀ j, o j < 115792089237316195423570985008687907853269984665640564039457584007913129639936 := hI.lt
    dsimp only
    by_cases hT4 : T = 4
    · subst hT4
      rw [dv_pos (by decide), db_pos (by decide)]
      refine run_loop_eq v8_21.eq_1 ?_
      refine run_driveS 80 ?_
      simp only [go_sem, v8_4, hkn, lenO_sl]
      refine run_exit rfl ?_
      refine run_driveS 80 ?_
      simp only [go_sem, v8_27]
      refine run_loop_eq v8_26.eq_1 ?_
      refine run_driveS 80 ?_
      simp only [go_sem, v8_23, lenO_sl]
      refine run_exit rfl ?_
      refine run_driveS 80 ?_
      simp only [go_sem, v8_28]
      exact run_ret_drop Tryd.func8 res8 [0, 1] (.sl 1 0 4 (.grow 4)) _ rfl (by simp) (hfit_cons rfl (hb0 _) (hfit_cons rfl (jb_g (scs_rens ..)) hfit_nil)) (uniq_nodup' (by decide)) (by simp only [go_sem, rr8, ren, gmap]) (hQ o hlt hI.nz hI.un)
    · have iN' : i < N + 1000 := by
        rcases Nat.lt_or_ge i (N + 1000) with h | h
        · exact h
        · obtain rfl : i = N + 1000 := by omega
          exact absurd (un_small hI) hT4
      have hT : ((T : Int) < 4) = True := eq_true (by omega)
      have hi1 : ((i : Int) < ((N + 1000 : Nat) : Int)) = True := eq_true (by omega)
      have hw : IntKind.i64.wrap ((i : Int) + 1) = ((i + 1 : Nat) : Int) := by rw [wrap_i64 (by omega) (by omega)]; omega
      refine run_loop_eq v8_21.eq_1 ?_
      refine run_driveS 80 ?_
      simp only [go_sem, v8_4, v8_19, v8_5, hT, hi1, hw1, hkn, hlen, hone]
      refine run_call' rfl ?_
      simp only [go_sem, calV]
      refine int' (2 + (i - N)) (by omega) ?_
      refine run_join (k := [TI.l v8_15, TI.b 2, TI.c ((VC.reg v8_17).seq (VC.cond (A.t 59) (VC.reg v8_18) VC.skip)), TI.b 1, TI.c (VC.reg v8_20), TI.l v8_21, TI.b 0, TI.c ((VC.block 4 v8_27).seq ((VC.reg v8_28).seq VC.ret))]) (S := fun u : Nat => ⟨[uv, .unk, .nils, dv 1 T, .int .u64 ((2 + (i + 1 - N) : Nat) : Int), .int .i64 (i : Nat), .ptr 2 0, .bool (okU u o 0), .int .i64 (0 : Nat)] ++ List.replicate 63 .unk, [b0, db o T, some ⟨.rw, lc u⟩]⟩) (I := fun u => u < 115792089237316195423570985008687907853269984665640564039457584007913129639936 ∧ (N ≤ i → u = 2 + (i - N))) (fun J => ?_) ?_
      · by_cases hlt' : i < N
        · obtain ⟨m, rfl, rfl⟩ : ∃ m, uv = .sl 0 0 N (.exact m) ∧ b0 = some ⟨.ro, scs N f⟩ := by
            cases hi with
            | nil => omega
            | sl m h => exact ⟨_, rfl, rfl⟩
          have h1 : ((i : Int) < (N : Int)) = True := eq_true (by omega)
          have hg := scs_get' N f (i := i) hlt'
          refine run_driveS 80 ?_
          simp only [go_sem, v8_6, h1, lenO_sl]
          refine run_cond_t (by rfl) ?_
          refine run_driveS 80 ?_
          simp only [go_sem, v8_7, v8_9, h1, hg]
          refine run_call' rfl ?_
          simp only [go_sem, calV]
          refine is_zero' hG _ (hf i) ?_
          refine run_driveS 80 ?_
          simp only [go_sem, v8_10, v8_16]
          refine run_rename [0, 1, 2] rfl (by simp) ?_ (uniq_nodup' (by decide)) ?_ (J (f i) ⟨hf i, fun h => absurd h (by omega)⟩)
          · exact hfit_cons rfl (hb0 _) (hfit_cons rfl (db_bfit ..) (hfit_cons rfl (jb_g (lc_rens ..)) hfit_nil))
          · rw [show i + 1 - N = i - N by omega]
            simp only [go_sem, fit, ren, gmap, true_or, or_true, okU, dv_ren, hrs]
        · have h1 : ((i : Int) < (N : Int)) = False := eq_false (by omega)
          refine run_driveS 80 ?_
          simp only [go_sem, v8_6, h1, hkn, hlen, hone]
          refine run_cond_f (by rfl) ?_
          refine run_driveS 80 ?_
          simp only [go_sem, v8_8, v8_9]
          have hnx : w64 (2 + (i - N) + 1) = 2 + (i + 1 - N) := by
            unfold w64; rw [Nat.mod_eq_of_lt (by omega)]; omega
          refine run_call' rfl ?_
          simp only [go_sem, calV]
          refine is_zero' hG _ (show 2 + (i - N) < 115792089237316195423570985008687907853269984665640564039457584007913129639936 by omega) ?_
          refine run_driveS 80 ?_
          simp only [go_sem, v8_10, v8_16, hnx]
          refine run_rename [0, 1, 2] rfl (by simp) ?_ (uniq_nodup' (by decide)) ?_ (J (2 + (i - N)) ⟨by omega, fun _ => rfl⟩)
          · exact hfit_cons rfl (hb0 _) (hfit_cons rfl (db_bfit ..) (hfit_cons rfl (jb_g (lc_rens ..)) hfit_nil))
          · simp only [go_sem, fit, ren, gmap, true_or, or_true, okU, dv_ren, hrs]
      · rintro u ⟨hu, hv⟩
        refine run_for (fun j => ⟨[uv, .unk, .nils, dv 1 T, .int .u64 ((2 + (i + 1 - N) : Nat) : Int), .int .i64 (i : Nat), .ptr 2 0, .bool (okU u o j), .int .i64 (j : Nat)] ++ List.replicate 63 .unk, [b0, db o T, some ⟨.rw, lc u⟩]⟩) T (fun j hj ih => ?_) ?_
        · have h0 : ((j : Int) < (T : Int)) = True := eq_true (by omega)
          have hwj : IntKind.i64.wrap ((j : Int) + 1) = ((j + 1 : Nat) : Int) := by rw [wrap_i64 (by omega) (by omega)]; omega
          have hTp : 0 < T := by omega
          have g1 := scs_get' T o (i := j) hj
          rw [dv_pos hTp, db_pos hTp] at ih ⊢
          cases hok : okU u o j with
          | true =>
            have e : okU u o (j + 1) = !decide (o j * o j % ell % ell = u * u % ell % ell) := by rw [okU, hok]; rfl
            rw [e] at ih
            refine run_loop_eq v8_15.eq_1 ?_
            refine run_driveS 80 ?_
            simp only [go_sem, v8_11, h0, lenO_sl]
            refine run_drw (by kernel_rfl) ?_
            refine drun_drive 40 (p := (_, _)) ?_
            simp only [go_sem, v8_12, h0, g1, lenO_sl, restore, Option.join_some, maskH, List.mapIdx_cons, List.mapIdx_nil, List.contains_cons, List.contains_nil, Bool.or_false, Bool.or_true, Bool.false_or, Bool.true_or, Nat.reduceBEq]
            refine drun_call' ?_
            simp only [go_sem, calV, restore, Option.join_some, maskH, List.mapIdx_cons, List.mapIdx_nil, List.contains_cons, List.contains_nil, Bool.or_false, Bool.or_true, Bool.false_or, Bool.true_or, Nat.reduceBEq]
            refine mul' hG _ _ (hlt _) (hlt _) ?_
            refine drun_drive 40 (p := (_, _)) ?_
            simp only [go_sem, restore, Option.join_some, maskH, List.mapIdx_cons, List.mapIdx_nil, List.contains_cons, List.contains_nil, Bool.or_false, Bool.or_true, Bool.false_or, Bool.true_or, Nat.reduceBEq]
            refine drun_call' ?_
            simp only [go_sem, calV, restore, Option.join_some, maskH, List.mapIdx_cons, List.mapIdx_nil, List.contains_cons, List.contains_nil, Bool.or_false, Bool.or_true, Bool.false_or, Bool.true_or, Nat.reduceBEq]
            refine mul' hG _ _ hu hu ?_
            refine drun_drive 40 (p := (_, _)) ?_
            simp only [go_sem, restore, Option.join_some, maskH, List.mapIdx_cons, List.mapIdx_nil, List.contains_cons, List.contains_nil, Bool.or_false, Bool.or_true, Bool.false_or, Bool.true_or, Nat.reduceBEq]
            refine drun_call' ?_
            simp only [go_sem, calV, restore, Option.join_some, maskH, List.mapIdx_cons, List.mapIdx_nil, List.contains_cons, List.contains_nil, Bool.or_false, Bool.or_true, Bool.false_or, Bool.true_or, Nat.reduceBEq]
            refine same_ hG _ _ (mod_lt _) (mod_lt _) ?_
            refine drun_drive 40 (p := (_, _)) ?_
            simp only [go_sem, restore, Option.join_some, maskH, List.mapIdx_cons, List.mapIdx_nil, List.contains_cons, List.contains_nil, Bool.or_false, Bool.or_true, Bool.false_or, Bool.true_or, Nat.reduceBEq]
            refine drun_end ?_
            refine run_driveS 80 ?_
            simp only [go_sem, v8_14, hwj]
            refine run_rename [0, 1, 2] rfl (by simp) ?_ (uniq_nodup' (by decide)) ?_ ih
            · exact hfit_cons rfl (hb0 _) (hfit_cons rfl (jb_g (scs_rens ..)) (hfit_cons rfl (jb_g (lc_rens ..)) hfit_nil))
            · simp only [go_sem, fit, ren, gmap, true_or, or_true, hrs]
          | false =>
            have e : okU u o (j + 1) = false := by rw [okU, hok]; rfl
            rw [e] at ih
            refine run_loop_eq v8_15.eq_1 ?_
            refine run_driveS 80 ?_
            simp only [go_sem, v8_11, h0, lenO_sl]
            refine run_drw (by kernel_rfl) ?_
            refine drun_drive 40 (p := (_, _)) ?_
            simp only [go_sem, v8_12, h0, g1, lenO_sl, restore, Option.join_some, maskH, List.mapIdx_cons, List.mapIdx_nil, List.contains_cons, List.contains_nil, Bool.or_false, Bool.or_true, Bool.false_or, Bool.true_or, Nat.reduceBEq]
            refine drun_end ?_
            refine run_driveS 80 ?_
            simp only [go_sem, v8_14, hwj]
            refine run_rename [0, 1, 2] rfl (by simp) ?_ (uniq_nodup' (by decide)) ?_ ih
            · exact hfit_cons rfl (hb0 _) (hfit_cons rfl (jb_g (scs_rens ..)) (hfit_cons rfl (jb_g (lc_rens ..)) hfit_nil))
            · simp only [go_sem, fit, ren, gmap, true_or, or_true, hrs]
        · have h0 : ((T : Int) < (T : Int)) = False := eq_false (by omega)
          refine run_loop_eq v8_15.eq_1 ?_
          refine run_driveS 80 ?_
          simp only [go_sem, v8_11, h0]
          refine run_exit rfl ?_
          cases hok : okU u o T with
          | true =>
            refine run_driveS 80 ?_
            simp only [go_sem, v8_17]
            refine run_cond_t (by rfl) ?_
            by_cases hT0 : T = 0
            · subst hT0
              rw [dv_zero', show db o 0 = none from rfl]
              refine run_driveS 80 ?_
              simp only [go_sem, v8_18, v8_20, hw]
              refine run_rename [0, 4] rfl (by simp) ?_ (uniq_nodup' (by decide)) ?_ (K (i + 1, 0 + 1, put o 0 u) (un_put hI (by omega) iN' hu hv hok) (by show N + 1000 - (i + 1) < N + 1000 - i; omega))
              · rw [db_pos (Nat.succ_pos _)]
                refine hfit_cons rfl (hb0 _) (hfit_cons rfl ?_ hfit_nil)
                rw [scs_s1 (put o 0 u) (v := u) rfl]; exact jb_g (lc_rens ..)
              · rw [dv_pos (Nat.succ_pos _)]
                simp only [go_sem, fit, ren, gmap, true_or, or_true, hrs]
            · have hTp : 0 < T := by omega
              rw [dv_pos hTp, db_pos hTp]
              have a1 : ((T + 1) * 32 ≤ 140737488355328) = True := eq_true (by omega)
              have a2 : (T + 1 ≤ 9223372036854775807) = True := eq_true (by omega)
              have a3 := scs_put o T u
              refine run_driveS 80 ?_
              simp only [go_sem, v8_18, v8_20, hw, a1, a2, a3]
              refine run_rename [0, 4] rfl (by simp) ?_ (uniq_nodup' (by decide)) ?_ (K (i + 1, T + 1, put o T u) (un_put hI (by omega) iN' hu hv hok) (by show N + 1000 - (i + 1) < N + 1000 - i; omega))
              · rw [db_pos (Nat.succ_pos _)]
                refine hfit_cons rfl (hb0 _) (hfit_cons rfl ?_ hfit_nil)
                exact jb_g (scs_rens ..)
              · rw [dv_pos (Nat.succ_pos _)]
                simp only [go_sem, fit, ren, gmap, true_or, or_true, hrs]
          | false =>
            refine run_driveS 80 ?_
            simp only [go_sem, v8_17]
            refine run_cond_f (by rfl) ?_
            refine run_driveS 80 ?_
            simp only [go_sem, v8_20, hw]
            refine run_rename [0, 1] rfl (by simp) ?_ (uniq_nodup' (by decide)) ?_ (K (i + 1, T, o) (un_skip hI iN' hv hok) (by show N + 1000 - (i + 1) < N + 1000 - i; omega))
            · exact hfit_cons rfl (hb0 _) (hfit_cons rfl (db_bfit ..) hfit_nil)
            · simp only [go_sem, fit, ren, gmap, true_or, or_true, hrs, dv_ren]
  · exact ⟨Nat.zero_le _, Nat.zero_le _, fun _ => (by decide : (0 : Nat) < 115792089237316195423570985008687907853269984665640564039457584007913129639936), fun j hj => absurd hj (Nat.not_lt_zero _), fun j k hj => absurd hj (Nat.not_lt_zero _), fun c hc => absurd hc (Nat.not_lt_zero _)⟩
end
section
attribute [local go_sem ↓] lc_len lc_take lc_drop lc_known lc_one lc_rens lc_cells lw_known lw_agg lw_asG scs_known scs_one scs_len lc_take_add lc_drop_add rowsL_len rowsL_known rowsL_one
attribute [local go_sem] lt_nat lt_natl lt_lnat lt_ll bool_tf bool_ft
set_option maxRecDepth 100000
set_option maxHeartbeats 2000000
def swp (s : Nat → Nat) (k p : Nat) : Nat → Nat := upd (upd s k (s p)) p (s k)
theorem swp_sw (s : Nat → Nat) (k p c : Nat) : swp s k p c = s (Go.VsP.sw k p c) := by
  unfold swp upd Go.VsP.sw
  by_cases h1 : c = p
  · subst h1
    rw [if_pos rfl]
    by_cases h2 : c = k
    · rw [if_pos h2, h2]
    · rw [if_neg h2, if_pos rfl]
  · rw [if_neg h1]
    by_cases h2 : c = k
    · rw [if_pos h2, if_pos h2]
    · rw [if_neg h2, if_neg h2, if_neg h1]
theorem swp_k (s : Nat → Nat) (k p : Nat) : swp s k p k = s p := by rw [swp_sw]; unfold Go.VsP.sw; rw [if_pos rfl]
theorem swp_b3 {s : Nat → Nat} (hs : ∀ c, c < 3 → B3 (s c)) {k p : Nat} (hk : k < 3) (hp : p < 3) : ∀ c, c < 3 → B3 (swp s k p c) := fun c hc => by
  rw [swp_sw]; exact hs _ (Go.VsP.sw_lt hk hp hc)
theorem swp_inj {s : Nat → Nat} (hi : ∀ c d, c < 3 → d < 3 → c ≠ d → s c ≠ s d) {k p : Nat} (hk : k < 3) (hp : p < 3) : ∀ c d, c < 3 → d < 3 → c ≠ d → swp s k p c ≠ swp s k p d := fun c d hc hd h => by
  rw [swp_sw, swp_sw]
  refine hi _ _ (Go.VsP.sw_lt hk hp hc) (Go.VsP.sw_lt hk hp hd) fun e => h ?_
  rw [← Go.VsP.sw_sw k p c, e, Go.VsP.sw_sw]
structure Cl (s : Nat → Nat) (Y : Nat → Nat → Nat) (k p : Nat) (Z : Nat → Nat → Nat) : Prop where
  kp : k ≤ p
  p3 : p < 3
  nz : Y (s p) k % ell ≠ 0
  lt : ∀ b j, Z b j < 115792089237316195423570985008687907853269984665640564039457584007913129639936
  row : ∀ c, c < 3 → Z (swp s k p c) = if c = k then rkf (Y (s p)) k else elr (rkf (Y (s p)) k) (Y (swp s k p c)) k
theorem rows_ (hG : G 0 = tbl) (k p : Nat) (hk : k < 3) (hp : p < 3) (hkp : k ≤ p) (s : Nat → Nat) (hs : ∀ c, c < 3 → B3 (s c)) (hi : ∀ c d, c < 3 → d < 3 → c ≠ d → s c ≠ s d) (Y : Nat → Nat → Nat) (hY : ∀ b j, Y b j < 115792089237316195423570985008687907853269984665640564039457584007913129639936) (nz : Y (s p) k % ell ≠ 0) {Q : V → Heap → Prop}
    (hQ : ∀ Z, Cl s Y k p Z → Q (.tup []) [some ⟨.rw, rowsL (swp s k p)⟩, some ⟨.rw, scs 4 (Z 1)⟩, some ⟨.rw, scs 4 (Z 2)⟩, some ⟨.rw, scs 4 (Z 3)⟩]) : RunM Tryd.prog G 37 4 {} Q ([TI.l v37_32, TI.b 4], ⟨[.sl 0 0 3 (.exact 3), .int .i64 (k : Nat)] ++ List.replicate 81 .unk ++ [.sl 0 0 3 (.exact 3), .int .i64 (3 : Nat), .int .i64 (0 : Nat)] ++ List.replicate 45 .unk, [some ⟨.rw, rowsL (swp s k p)⟩, some ⟨.rw, scs 4 (upd Y (s p) (rkf (Y (s p)) k) 1)⟩, some ⟨.rw, scs 4 (upd Y (s p) (rkf (Y (s p)) k) 2)⟩, some ⟨.rw, scs 4 (upd Y (s p) (rkf (Y (s p)) k) 3)⟩]⟩) := by
  have hs' := swp_b3 hs hk hp
  have hi' := swp_inj hi hk hp
  refine run_inv (fun a : Nat × (Nat → Nat → Nat) => ⟨[.sl 0 0 3 (.exact 3), .int .i64 (k : Nat)] ++ List.replicate 81 .unk ++ [.sl 0 0 3 (.exact 3), .int .i64 (3 : Nat), .int .i64 (a.1 : Nat)] ++ List.replicate 45 .unk, [some ⟨.rw, rowsL (swp s k p)⟩, some ⟨.rw, scs 4 (a.2 1)⟩, some ⟨.rw, scs 4 (a.2 2)⟩, some ⟨.rw, scs 4 (a.2 3)⟩]⟩) (fun a => a.1 ≤ 3 ∧ (∀ b j, a.2 b j < 115792089237316195423570985008687907853269984665640564039457584007913129639936) ∧ ∀ c, c < 3 → a.2 (swp s k p c) = if c = k then rkf (Y (s p)) k else if c < a.1 then elr (rkf (Y (s p)) k) (Y (swp s k p c)) k else Y (swp s k p c)) (fun a => 3 - a.1) ?_ (0, upd Y (s p) (rkf (Y (s p)) k)) ?_
  · rintro ⟨i, Z⟩ ⟨h3, hZ, hr⟩ K
    dsimp only at h3 hZ hr ⊢
    by_cases hi3 : i = 3
    · subst hi3
      refine run_loop_eq v37_32.eq_1 ?_
      refine run_driveS 80 ?_
      simp only [go_sem, v37_18]
      refine run_exit rfl ?_
      refine run_end' Tryd.func37 res37 ?_
      simp only [go_sem, rr37]
      refine hQ Z ⟨hkp, hp, nz, hZ, fun c hc => ?_⟩
      rw [hr c hc]
      by_cases h : c = k
      · rw [if_pos h, if_pos h]
      · rw [if_neg h, if_neg h, if_pos hc]
    · have hi4 : i < 3 := by omega
      by_cases hik : i = k
      · subst hik
        have ri := rowsL_get (swp s i p) hi4
        have h0 : ((i : Int) < 3) = True := eq_true (by omega)
        have iin : (i ≤ 2) = True := eq_true (by omega)
        have w1 : IntKind.i64.wrap ((i : Int) + 1) = ((i + 1 : Nat) : Int) := by rw [wrap_i64 (by omega) (by omega)]; omega
        refine run_loop_eq v37_32.eq_1 ?_
        refine run_driveS 80 ?_
        simp only [go_sem, v37_18, v37_30, v37_19, h0, ri, iin]
        refine run_driveS 80 ?_
        simp only [go_sem, v37_20]
        refine run_cond_t (by rfl) ?_
        refine run_exit rfl ?_
        refine run_driveS 80 ?_
        simp only [go_sem, v37_31, w1]
        refine run_rename [0, 1, 2, 3] rfl (by simp) ?_ (uniq_nodup' (by decide)) ?_ (K (i + 1, Z) ⟨hi4, hZ, fun c hc => ?_⟩ (by show 3 - (i + 1) < 3 - i; omega))
        · exact hfit_cons rfl (jb_g (rowsL_rens _ _ fun c hc => gm_b3 rfl rfl rfl (hs' c hc))) (hfit_cons rfl (jb_g (scs_rens ..)) (hfit_cons rfl (jb_g (scs_rens ..)) (hfit_cons rfl (jb_g (scs_rens ..)) hfit_nil)))
        · simp only [go_sem, fit, ren, gmap, true_or, or_true]
        · show Z (swp s i p c) = if c = i then _ else if c < i + 1 then _ else _
          rw [hr c hc]
          by_cases h : c = i
          · rw [if_pos h, if_pos h]
          · rw [if_neg h, if_neg h]
            by_cases h2 : c < i
            · rw [if_pos h2, if_pos (show c < i + 1 by omega)]
            · rw [if_neg h2, if_neg (show ¬ c < i + 1 by omega)]
      · refine rs_ hG k i hk hi4 hik (swp s k p) hs' (hi' k i hk hi4 (Ne.symm hik)) Z hZ (K (i + 1, upd Z (swp s k p i) (elr (Z (swp s k p k)) (Z (swp s k p i)) k)) ⟨hi4, fun b j => ?_, fun c hc => ?_⟩ (by show 3 - (i + 1) < 3 - i; omega))
        · show upd Z _ _ b j < 115792089237316195423570985008687907853269984665640564039457584007913129639936
          unfold upd; split
          · exact elr_lt (hZ _) j
          · exact hZ b j
        · show upd Z _ _ (swp s k p c) = _
          have hRk := hr k hk
          rw [if_pos rfl] at hRk
          have hRi := hr i hi4
          rw [if_neg hik, if_neg (Nat.lt_irrefl i)] at hRi
          by_cases hci : c = i
          · subst hci
            rw [upd_same, if_neg hik, if_pos (Nat.lt_succ_self c), hRk, hRi]
          · rw [upd_ne _ _ (hi' c i hc hi4 hci), hr c hc]
            by_cases h : c = k
            · rw [if_pos h, if_pos h]
            · rw [if_neg h, if_neg h]
              by_cases h2 : c < i
              · rw [if_pos h2, if_pos (show c < i + 1 by omega)]
              · rw [if_neg h2, if_neg (show ¬ c < i + 1 by omega)]
  · refine ⟨Nat.zero_le _, fun b j => ?_, fun c hc => ?_⟩
    · show upd Y _ _ b j < 115792089237316195423570985008687907853269984665640564039457584007913129639936
      unfold upd; split
      · exact rkf_lt ..
      · exact hY b j
    · show upd Y _ _ (swp s k p c) = if c = k then _ else if c < 0 then _ else _
      by_cases h : c = k
      · subst h
        rw [swp_k, upd_same, if_pos rfl]
      · rw [if_neg h, if_neg (Nat.not_lt_zero c), upd_ne]
        rw [← swp_k s k p]
        exact hi' c k hc hk h
theorem clear_ (hG : G 0 = tbl) (k : Nat) (hk : k < 3) (s : Nat → Nat) (hs : ∀ c, c < 3 → B3 (s c)) (hi : ∀ c d, c < 3 → d < 3 → c ≠ d → s c ≠ s d) (Y : Nat → Nat → Nat) (hY : ∀ b j, Y b j < 115792089237316195423570985008687907853269984665640564039457584007913129639936) (hp : ∃ p, k ≤ p ∧ p < 3 ∧ Y (s p) k % ell ≠ 0) {Q : V → Heap → Prop}
    (hQ : ∀ p Z, Cl s Y k p Z → Q (.tup []) [some ⟨.rw, rowsL (swp s k p)⟩, some ⟨.rw, scs 4 (Z 1)⟩, some ⟨.rw, scs 4 (Z 2)⟩, some ⟨.rw, scs 4 (Z 3)⟩]) : VCall Tryd.prog G 37 [.sl 0 0 3 (.exact 3), .int .i64 (k : Nat)] [some ⟨.rw, rowsL s⟩, some ⟨.rw, scs 4 (Y 1)⟩, some ⟨.rw, scs 4 (Y 2)⟩, some ⟨.rw, scs 4 (Y 3)⟩] Q := by
  have k0 : ((k : Int) < 4) = True := eq_true (by omega)
  have k3 : ((k : Int) < 3) = True := eq_true (by omega)
  have kin : (k * 4 ≤ 12) = True := eq_true (by omega)
  have kin2 : (k ≤ 2) = True := eq_true (by omega)
  have hvl : ∀ a, linv a < 115792089237316195423570985008687907853269984665640564039457584007913129639936 := fun a => Nat.lt_trans (linv_lt _) ell_lt
  refine vcall_body Tryd.func37 nm37 code37 nt37 ?_
  refine run_driveS 80 ?_
  simp only [go_sem, v37, v37_0, v37_5]
  refine run_rename [0, 1, 2, 3] (st' := ⟨[.sl 0 0 3 (.exact 3), .int .i64 (k : Nat), .unk, .unk, .int .i64 (k : Nat)] ++ List.replicate 126 .unk, [some ⟨.rw, rowsL s⟩, some ⟨.rw, scs 4 (Y 1)⟩, some ⟨.rw, scs 4 (Y 2)⟩, some ⟨.rw, scs 4 (Y 3)⟩]⟩) rfl (by simp) ?_ (uniq_nodup' (by decide)) ?_ (run_inv (fun p : Nat => ⟨[.sl 0 0 3 (.exact 3), .int .i64 (k : Nat), .unk, .unk, .int .i64 (p : Nat)] ++ List.replicate 126 .unk, [some ⟨.rw, rowsL s⟩, some ⟨.rw, scs 4 (Y 1)⟩, some ⟨.rw, scs 4 (Y 2)⟩, some ⟨.rw, scs 4 (Y 3)⟩]⟩) (fun p => k ≤ p ∧ p < 3 ∧ ∀ c, k ≤ c → c < p → Y (s c) k % ell = 0) (fun p => 3 - p) ?_ k ?_)
  · exact hfit_cons rfl (jb_g (rowsL_rens _ _ fun c hc => gm_b3 rfl rfl rfl (hs c hc))) (hfit_cons rfl (jb_g (scs_rens ..)) (hfit_cons rfl (jb_g (scs_rens ..)) (hfit_cons rfl (jb_g (scs_rens ..)) hfit_nil)))
  · simp only [go_sem, fit, ren, gmap, true_or, or_true]
  · rintro p ⟨hkp, hp3, hz⟩ K
    have rp := rowsL_get s hp3
    have p3 : ((p : Int) < 3) = True := eq_true (by omega)
    have pin : (p ≤ 2) = True := eq_true (by omega)
    have lk := lk4 Y (some ⟨.rw, rowsL s⟩) (hs p hp3)
    have gX := scs_get' 4 (Y (s p)) (i := k) (by omega)
    have pe : ((p : Int) == 3) = false := by rw [beq_eq_false_iff_ne]; omega
    have w1 : IntKind.i64.wrap ((p : Int) + 1) = ((p + 1 : Nat) : Int) := by rw [wrap_i64 (by omega) (by omega)]; omega
    refine run_loop_eq v37_4.eq_1 ?_
    refine run_driveS 80 ?_
    simp only [go_sem, v37_1, p3, pin, rp, lk, k0, kin, gX]
    refine run_call' rfl ?_
    simp only [go_sem, calV, m_isz]
    refine is_zero' hG _ (hY _ _) ?_
    by_cases hzp : Y (s p) k % ell = 0
    · rw [decide_eq_true hzp]
      refine run_driveS 80 ?_
      simp only [go_sem, v37_2, v37_3, w1]
      refine run_rename [0, 1, 2, 3] rfl (by simp) ?_ (uniq_nodup' (by decide)) ?_ (K (p + 1) ⟨by omega, ?_, fun c h1 h2 => ?_⟩ (by show 3 - (p + 1) < 3 - p; omega))
      · exact hfit_cons rfl (jb_g (rowsL_rens _ _ fun c hc => gm_b3 rfl rfl rfl (hs c hc))) (hfit_cons rfl (jb_g (scs_rens ..)) (hfit_cons rfl (jb_g (scs_rens ..)) (hfit_cons rfl (jb_g (scs_rens ..)) hfit_nil)))
      · simp only [go_sem, fit, ren, gmap, true_or, or_true]
      · obtain ⟨x, x1, x2, x3⟩ := hp
        rcases Nat.lt_or_ge x (p + 1) with h | h
        · exfalso
          rcases Nat.lt_or_ge x p with h' | h'
          · exact x3 (hz x x1 h')
          · obtain rfl : x = p := by omega
            exact x3 hzp
        · omega
      · rcases Nat.lt_or_ge c p with h' | h'
        · exact hz c h1 h'
        · obtain rfl : c = p := by omega
          exact hzp
    · rw [decide_eq_false hzp]
      have hs' := swp_b3 hs hk hp3
      have rk := rowsL_get s hk
      have st1 := rowsL_set s (x := s p) hk
      have st2 := rowsL_set (upd s k (s p)) (x := s k) hp3
      have rk' := rowsL_get (swp s k p) hk
      rw [swp_k] at rk'
      have lk' := lk4 Y (some ⟨.rw, rowsL (swp s k p)⟩) (hs p hp3)
      refine run_driveS 80 ?_
      simp only [go_sem]
      refine run_exit rfl ?_
      refine run_driveS 80 ?_
      simp only [go_sem, v37_6, pe]
      refine run_cond_f (by rfl) ?_
      refine run_driveS 80 ?_
      simp only [go_sem]
      refine run_drw (by kernel_rfl) ?_
      refine drun_drive 40 (p := (_, _)) ?_
      simp only [go_sem, v37_7, p3, pin, rp, rk, k3, kin2, st1, st2]
      refine drun_end ?_
      rw [show upd (upd s k (s p)) p (s k) = swp s k p from rfl]
      refine run_driveS 80 ?_
      simp only [go_sem]
      refine run_driveS 80 ?_
      simp only [go_sem, v37_8, k3, kin2, rk', lk', k0, kin, gX]
      refine run_call' rfl ?_
      simp only [go_sem, calV, m_invS]
      refine invert' hG _ (hY _ _) ?_
      refine run_driveS 80 ?_
      simp only [go_sem, v37_9, v37_16, k3, kin2, rk']
      refine run_rename [0, 1, 2, 3, 4] (st' := ⟨[.sl 0 0 3 (.exact 3), .int .i64 (k : Nat), .unk, .unk, .int .i64 (p : Nat), .ptr 4 0] ++ List.replicate 56 .unk ++ [.int .i64 (4 : Nat), .int .i64 (0 : Nat)] ++ List.replicate 67 .unk, [some ⟨.rw, rowsL (swp s k p)⟩, some ⟨.rw, scs 4 ((upd Y (s p) (mxf (rkf (Y (s p)) k) (Y (s p)) 0)) 1)⟩, some ⟨.rw, scs 4 ((upd Y (s p) (mxf (rkf (Y (s p)) k) (Y (s p)) 0)) 2)⟩, some ⟨.rw, scs 4 ((upd Y (s p) (mxf (rkf (Y (s p)) k) (Y (s p)) 0)) 3)⟩, some ⟨.rw, lc (linv (Y (s p) k))⟩]⟩) rfl (by simp) ?_ (uniq_nodup' (by decide)) ?_ (run_for (fun j => ⟨[.sl 0 0 3 (.exact 3), .int .i64 (k : Nat), .unk, .unk, .int .i64 (p : Nat), .ptr 4 0] ++ List.replicate 56 .unk ++ [.int .i64 (4 : Nat), .int .i64 (j : Nat)] ++ List.replicate 67 .unk, [some ⟨.rw, rowsL (swp s k p)⟩, some ⟨.rw, scs 4 ((upd Y (s p) (mxf (rkf (Y (s p)) k) (Y (s p)) j)) 1)⟩, some ⟨.rw, scs 4 ((upd Y (s p) (mxf (rkf (Y (s p)) k) (Y (s p)) j)) 2)⟩, some ⟨.rw, scs 4 ((upd Y (s p) (mxf (rkf (Y (s p)) k) (Y (s p)) j)) 3)⟩, some ⟨.rw, lc (linv (Y (s p) k))⟩]⟩) 4 (fun j hj jh => ?_) ?_)
      · rw [mxf_0, upd_self]
        exact hfit_cons rfl (jb_g (rowsL_rens _ _ fun c hc => gm_b3 rfl rfl rfl (hs' c hc))) (hfit_cons rfl (jb_g (scs_rens ..)) (hfit_cons rfl (jb_g (scs_rens ..)) (hfit_cons rfl (jb_g (scs_rens ..)) (hfit_cons rfl (jb_g (lc_rens ..)) hfit_nil))))
      · simp only [go_sem, fit, ren, gmap, true_or, or_true]
      · have j0 : ((j : Int) < 4) = True := eq_true (by omega)
        have hw : IntKind.i64.wrap ((j : Int) + 1) = ((j + 1 : Nat) : Int) := by rw [wrap_i64 (by omega) (by omega)]; omega
        have g1 := mxf_get (rkf (Y (s p)) k) (Y (s p)) hj
        have in1 : (j * 4 ≤ 12) = True := eq_true (by omega)
        have l1 := lk5 (upd Y (s p) (mxf (rkf (Y (s p)) k) (Y (s p)) j)) (some ⟨.rw, rowsL (swp s k p)⟩) (some ⟨.rw, lc (linv (Y (s p) k))⟩) (hs p hp3)
        rw [upd_same] at l1
        have st := mxf_set (rkf (Y (s p)) k) (Y (s p)) hj (v := Y (s p) j * linv (Y (s p) k) % ell) rfl
        have s1 := set5 (upd Y (s p) (mxf (rkf (Y (s p)) k) (Y (s p)) j)) (some ⟨.rw, rowsL (swp s k p)⟩) (some ⟨.rw, lc (linv (Y (s p) k))⟩) (mxf (rkf (Y (s p)) k) (Y (s p)) (j + 1)) (hs p hp3)
        rw [upd_upd] at s1
        refine run_loop_eq v37_15.eq_1 ?_
        refine run_driveS 80 ?_
        simp only [go_sem, v37_10, v37_13, v37_11, j0]
        refine run_drw (by kernel_rfl) ?_
        refine drun_drive 40 (p := (_, _)) ?_
        simp only [go_sem, v37_12, j0, k3, kin2, g1, l1, rk', in1]
        refine drun_call' ?_
        simp only [go_sem, calV, m_mulS]
        refine mul' hG _ _ (hY _ _) (hvl _) ?_
        refine drun_drive 40 (p := (_, _)) ?_
        simp only [go_sem, j0, in1, l1, st, s1]
        refine drun_end ?_
        refine run_driveS 80 ?_
        simp only [go_sem, v37_14, hw]
        refine run_rename [0, 1, 2, 3, 4] rfl (by simp) ?_ (uniq_nodup' (by decide)) ?_ jh
        · exact hfit_cons rfl (jb_g (rowsL_rens _ _ fun c hc => gm_b3 rfl rfl rfl (hs' c hc))) (hfit_cons rfl (jb_g (scs_rens ..)) (hfit_cons rfl (jb_g (scs_rens ..)) (hfit_cons rfl (jb_g (scs_rens ..)) (hfit_cons rfl (jb_g (lc_rens ..)) hfit_nil))))
        · simp only [go_sem, fit, ren, gmap, true_or, or_true]
      · have e4 : ∀ b, scs 4 (upd Y (s p) (mxf (rkf (Y (s p)) k) (Y (s p)) 4) b) = scs 4 (upd Y (s p) (rkf (Y (s p)) k) b) := fun b => by
          unfold upd; split
          · exact mxf_4 _ _
          · rfl
        rw [e4, e4, e4]
        refine run_loop_eq v37_15.eq_1 ?_
        refine run_driveS 80 ?_
        simp only [go_sem, v37_10]
        refine run_exit rfl ?_
        refine run_driveS 80 ?_
        simp only [go_sem, v37_17, v37_33]
        refine run_rename [0, 1, 2, 3] rfl (by simp) ?_ (uniq_nodup' (by decide)) ?_ (rows_ hG k p hk hp3 hkp s hs hi Y hY hzp fun Z hZ => hQ p Z hZ)
        · exact hfit_cons rfl (jb_g (rowsL_rens _ _ fun c hc => gm_b3 rfl rfl rfl (hs' c hc))) (hfit_cons rfl (jb_g (scs_rens ..)) (hfit_cons rfl (jb_g (scs_rens ..)) (hfit_cons rfl (jb_g (scs_rens ..)) hfit_nil)))
        · simp only [go_sem, fit, ren, gmap, true_or, or_true]
  · obtain ⟨x, x1, x2, x3⟩ := hp
    exact ⟨Nat.le_refl _, hk, fun c h1 h2 => absurd h2 (by omega)⟩
end
end Go.Vs.Tryd
namespace Go.Vs.Tryd
open Go.Proofs
variable {G : Nat → List V}
set_option linter.unusedSimpArgs false
attribute [local go_sem] lenO_nils lenO_sl sliceAtV Int.sub_zero List.length_append List.all_append ge_iff_le gt_iff_lt Int.natCast_nonneg Int.toNat_natCast Nat.mul_one b_and_ll b_shr_ll b_mul_ll b_add_ll b_or_ll b_shl_ll pick_ll pick_lc pick_bb driveS stopV Option.isSome_some Option.isSome_none Kind.m Kind.w Kind.g look_ro look_rw look_grow drive stepV exo expo evs fillV isNil nilKind eqV eqL optA optM sliceAtV ev kn ldc stc splice appV srcV lenV setd wantV exitV rvs rv one List.length_cons List.length_nil List.cons_append List.nil_append List.append_nil List.replicate List.getD_cons_zero List.getD_cons_succ List.set_cons_zero List.set_cons_succ List.getElem?_cons_zero List.getElem?_cons_succ List.getElem?_nil List.take_succ_cons List.take_zero List.take_nil List.drop_succ_cons List.drop_zero List.drop_nil List.all_cons List.all_nil List.any_cons List.any_nil Bool.and_true Bool.true_and Bool.and_self Option.map_some Option.map_none Option.bind_some Option.some.injEq Nat.add_zero Nat.zero_add Int.toNat_zero Int.toNat_one Int.zero_add Int.add_zero if_true if_false ite_true ite_false and_true true_and and_self ne_eq not_false_eq_true not_true_eq_false decide_true decide_false Bool.false_eq_true Bool.not_true Bool.not_false beq_self_eq_true BEq.rfl Bool.not_eq_true Nat.le_refl Int.le_refl Nat.zero_le List.foldl List.map_cons List.map_nil Prod.mk.injEq Int.cast_ofNat_Int Int.zero_le_ofNat b_add_cc b_add_cl b_add_lc b_mul_cc b_mul_cl b_mul_lc b_sub_cc b_sub_cl b_sub_lc b_and_cc b_and_cl b_and_lc b_or_cc b_or_cl b_or_lc b_xor_cc b_xor_cl b_xor_lc b_andNot_cc b_andNot_cl b_andNot_lc b_shr_cc b_shr_cl b_shr_lc b_shl_cc b_shl_cl b_shl_lc b_lss b_leq b_gtr b_geq b_add_i b_sub_i b_mul_i beq_cc beq_cl beq_lc beq_ll b_quo_i b_rem_i neg_u64 wrap_i64 driveD stepD idsAt idOf maskH_nil restore_nil restore_mask List.filterMap_nil List.filterMap_cons VOp.looks VOp.makes exA cells_agg cells_int cells_bool cells_str cells_nilp cells_ptr cells_glob cells_nils cells_sl cells_nilf cells_fn cells_nili cells_ifc known_agg known_tup known_int known_bool known_str known_nilp known_ptr known_glob known_nils known_sl known_nilf known_fn known_nili known_ifc known_unk one_agg one_tup one_int one_bool one_str one_nilp one_ptr one_glob one_nils one_sl one_nilf one_fn one_nili one_ifc asK_int asN_int asB_bool asS_str asG_agg asT_tup true_or or_true false_or or_false
set_option maxRecDepth 100000
def mat (s : Nat → Nat) (Y : Nat → Nat → Nat) (c j : Nat) : Go.VsP.Fq := Go.VsP.ph (Y (s c) j)
theorem sol_congr {M N : Nat → Nat → Go.VsP.Fq} (h : ∀ c, c < 3 → ∀ j, M c j = N c j) (z : Go.VsP.Fq) (x : Nat → Go.VsP.Fq) : Go.VsP.Sol M z x ↔ Go.VsP.Sol N z x := by
  have key : ∀ c, c < 3 → Go.VsP.res M z x c = Go.VsP.res N z x c := fun c hc => by unfold Go.VsP.res; rw [h c hc, h c hc, h c hc, h c hc]
  exact ⟨fun a c hc => by rw [← key c hc]; exact a c hc, fun a c hc => by rw [key c hc]; exact a c hc⟩
theorem unit_congr {M N : Nat → Nat → Go.VsP.Fq} (h : ∀ c, c < 3 → ∀ j, M c j = N c j) {k : Nat} (u : Go.VsP.Unit N k) : Go.VsP.Unit M k := fun c j hc hj => by rw [h c hc]; exact u c j hc hj
theorem ph_sb (a b : Nat) : Go.VsP.ph (sb a b) = Go.VsP.ph a - Go.VsP.ph b := (Go.VsP.ph_mod _).trans (Go.VsP.ph_sub a b)
theorem ph_mulm (a b : Nat) : Go.VsP.ph (a * b % ell) = Go.VsP.ph a * Go.VsP.ph b := (Go.VsP.ph_mod _).trans (Go.VsP.ph_mul a b)
theorem ph_linv {a : Nat} (h : a % ell ≠ 0) : Go.VsP.ph a * Go.VsP.ph (linv a) = 1 := by
  rw [← Go.VsP.ph_mul, Nat.mul_comm]
  have : Go.VsP.ph (linv a * a) = Go.VsP.ph 1 := Go.VsP.ph_eq.2 (by show linv a * a % ell = 1 % ell; rw [linv_mul h]; rfl)
  exact this
theorem ph_z {a : Nat} : Go.VsP.ph a = 0 ↔ a % ell = 0 := Go.VsP.ph_zero_iff
theorem cl_elim {s : Nat → Nat} {Y Z : Nat → Nat → Nat} {k p : Nat} (h : Cl s Y k p Z) : ∀ c, c < 3 → ∀ j, mat (swp s k p) Z c j = Go.VsP.elim (mat s Y) k p (Go.VsP.ph (linv (Y (s p) k))) c j := by
  intro c hc j
  unfold mat Go.VsP.elim
  rw [h.row c hc]
  by_cases hk : c = k
  · rw [if_pos hk, if_pos hk]
    exact ph_mulm _ _
  · rw [if_neg hk, if_neg hk, swp_sw]
    unfold elr
    have hr : Go.VsP.ph (rkf (Y (s p)) k j) = Go.VsP.ph (Y (s p) j) * Go.VsP.ph (linv (Y (s p) k)) := ph_mulm _ _
    by_cases hz : Y (s (Go.VsP.sw k p c)) k % ell = 0
    · rw [if_pos hz]
      have e := ph_z.2 hz
      dsimp only
      rw [e]
      generalize Go.VsP.ph (Y (s (Go.VsP.sw k p c)) j) = a
      generalize Go.VsP.ph (Y (s p) j) * Go.VsP.ph (linv (Y (s p) k)) = b
      clear e hr h hz
      grobner
    · rw [if_neg hz, ph_sb, ph_mulm, hr]
structure Elim (M0 : Nat → Nat → Go.VsP.Fq) (k : Nat) (s : Nat → Nat) (Y : Nat → Nat → Nat) : Prop where
  k3 : k ≤ 3
  b3 : ∀ c, c < 3 → B3 (s c)
  inj : ∀ c d, c < 3 → d < 3 → c ≠ d → s c ≠ s d
  lt : ∀ b j, Y b j < 115792089237316195423570985008687907853269984665640564039457584007913129639936
  sol : ∀ z x, Go.VsP.Sol (mat s Y) z x ↔ Go.VsP.Sol M0 z x
  unit : Go.VsP.Unit (mat s Y) k
theorem Elim.pivot {M0 : Nat → Nat → Go.VsP.Fq} {k : Nat} {s : Nat → Nat} {Y : Nat → Nat → Nat} (h : Elim M0 k s Y) (hk : k < 3) (hn : ∀ x, Go.VsP.Sol M0 0 x → x k = 0) : ∃ p, k ≤ p ∧ p < 3 ∧ Y (s p) k % ell ≠ 0 := by
  refine Classical.byContradiction fun hno => ?_
  refine Go.VsP.pivot (mat s Y) hk h.unit (fun x hx => hn x ((h.sol 0 x).1 hx)) fun c h1 h2 => ?_
  refine ph_z.2 ?_
  exact Classical.byContradiction fun e => hno ⟨c, h1, h2, e⟩
theorem Elim.step {M0 : Nat → Nat → Go.VsP.Fq} {k : Nat} {s : Nat → Nat} {Y Z : Nat → Nat → Nat} {p : Nat} (h : Elim M0 k s Y) (hk : k < 3) (c : Cl s Y k p Z) : Elim M0 (k + 1) (swp s k p) Z :=
  ⟨hk, swp_b3 h.b3 hk c.p3, swp_inj h.inj hk c.p3, c.lt, fun z x => (sol_congr (cl_elim c) z x).trans ((Go.VsP.sol_elim _ hk c.p3 (ph_linv c.nz) z x).trans (h.sol z x)), unit_congr (cl_elim c) (Go.VsP.unit_elim _ hk c.p3 c.kp (ph_linv c.nz) h.unit)⟩
theorem Elim.done {M0 : Nat → Nat → Go.VsP.Fq} {s : Nat → Nat} {Y : Nat → Nat → Nat} (h : Elim M0 3 s Y) : Go.VsP.Sol M0 1 fun j => Go.VsP.ph (Y (s j) 3) :=
  (h.sol 1 _).1 (Go.VsP.unit_sol h.unit)
end Go.Vs.Tryd
namespace Go.Vs.Tryd
open Go.Proofs
variable {G : Nat → List V}
set_option linter.unusedSimpArgs false
attribute [local go_sem] lenO_nils lenO_sl sliceAtV Int.sub_zero List.length_append List.all_append ge_iff_le gt_iff_lt Int.natCast_nonneg Int.toNat_natCast Nat.mul_one b_and_ll b_shr_ll b_mul_ll b_add_ll b_or_ll b_shl_ll pick_ll pick_lc pick_bb driveS stopV Option.isSome_some Option.isSome_none Kind.m Kind.w Kind.g look_ro look_rw look_grow drive stepV exo expo evs fillV isNil nilKind eqV eqL optA optM sliceAtV ev kn ldc stc splice appV srcV lenV setd wantV exitV rvs rv one List.length_cons List.length_nil List.cons_append List.nil_append List.append_nil List.replicate List.getD_cons_zero List.getD_cons_succ List.set_cons_zero List.set_cons_succ List.getElem?_cons_zero List.getElem?_cons_succ List.getElem?_nil List.take_succ_cons List.take_zero List.take_nil List.drop_succ_cons List.drop_zero List.drop_nil List.all_cons List.all_nil List.any_cons List.any_nil Bool.and_true Bool.true_and Bool.and_self Option.map_some Option.map_none Option.bind_some Option.some.injEq Nat.add_zero Nat.zero_add Int.toNat_zero Int.toNat_one Int.zero_add Int.add_zero if_true if_false ite_true ite_false and_true true_and and_self ne_eq not_false_eq_true not_true_eq_false decide_true decide_false Bool.false_eq_true Bool.not_true Bool.not_false beq_self_eq_true BEq.rfl Bool.not_eq_true Nat.le_refl Int.le_refl Nat.zero_le List.foldl List.map_cons List.map_nil Prod.mk.injEq Int.cast_ofNat_Int Int.zero_le_ofNat b_add_cc b_add_cl b_add_lc b_mul_cc b_mul_cl b_mul_lc b_sub_cc b_sub_cl b_sub_lc b_and_cc b_and_cl b_and_lc b_or_cc b_or_cl b_or_lc b_xor_cc b_xor_cl b_xor_lc b_andNot_cc b_andNot_cl b_andNot_lc b_shr_cc b_shr_cl b_shr_lc b_shl_cc b_shl_cl b_shl_lc b_lss b_leq b_gtr b_geq b_add_i b_sub_i b_mul_i beq_cc beq_cl beq_lc beq_ll b_quo_i b_rem_i neg_u64 wrap_i64 driveD stepD idsAt idOf maskH_nil restore_nil restore_mask List.filterMap_nil List.filterMap_cons VOp.looks VOp.makes exA cells_agg cells_int cells_bool cells_str cells_nilp cells_ptr cells_glob cells_nils cells_sl cells_nilf cells_fn cells_nili cells_ifc known_agg known_tup known_int known_bool known_str known_nilp known_ptr known_glob known_nils known_sl known_nilf known_fn known_nili known_ifc known_unk one_agg one_tup one_int one_bool one_str one_nilp one_ptr one_glob one_nils one_sl one_nilf one_fn one_nili one_ifc asK_int asN_int asB_bool asS_str asG_agg asT_tup true_or or_true false_or or_false
attribute [local go_sem_proc] Nat.reduceAdd Nat.reduceSub Nat.reduceLeDiff Nat.reduceMul Nat.reduceLT Nat.reduceEqDiff Int.reduceLT Int.reduceLE Int.reduceAdd Int.reduceSub Int.reduceMul Int.reduceToNat reduceIte reduceCtorEq Nat.reduceBEq
attribute [local go_sem ↓] lc_len lc_take lc_drop lc_known lc_one lc_rens lc_cells lw_known lw_agg lw_asG scs_known scs_one scs_len lc_take_add lc_drop_add rowsL_len rowsL_known rowsL_one
attribute [local go_sem] lt_nat lt_natl lt_lnat lt_ll bool_tf bool_ft
set_option maxRecDepth 100000
set_option maxHeartbeats 2000000
def aug (A : Nat → Nat → Nat) (w : Nat → Nat) (c j : Nat) : Nat := if j < 3 then A c j else w c
theorem aug_lt {A : Nat → Nat → Nat} {w : Nat → Nat} (hA : ∀ c j, A c j < 115792089237316195423570985008687907853269984665640564039457584007913129639936) (hw : ∀ c, w c < 115792089237316195423570985008687907853269984665640564039457584007913129639936) (c j : Nat) : aug A w c j < 115792089237316195423570985008687907853269984665640564039457584007913129639936 := by
  unfold aug; split
  · exact hA c j
  · exact hw c
theorem aug_cat (A : Nat → Nat → Nat) (w : Nat → Nat) (c : Nat) : scs 3 (A c) ++ lc (w c) = scs 4 (aug A w c) := rfl
theorem scs3_take (f : Nat → Nat) : (scs 3 f).take 12 = scs 3 f := rfl
theorem scs3_0 (f : Nat → Nat) : (scs 3 f).take 4 = lc (f 0) := rfl
theorem scs3_1 (f : Nat → Nat) : ((scs 3 f).drop 4).take 4 = lc (f 1) := rfl
theorem scs3_2 (f : Nat → Nat) : ((scs 3 f).drop 8).take 4 = lc (f 2) := rfl
theorem scs3_ne (f : Nat → Nat) : (scs 3 f = []) = False := eq_false (fun h => by have := congrArg List.length h; rw [scs_len] at this; cases this)
theorem lc_ne (n : Nat) : (lc n = []) = False := eq_false (fun h => by have := congrArg List.length h; rw [lc_len] at this; cases this)
theorem scs3_t (f : Nat → Nat) (r : List V) : (scs 3 f ++ r).take 12 = scs 3 f := rfl
theorem scs3_d (f : Nat → Nat) (x0 x1 x2 x3 : V) : (scs 3 f ++ [x0, x1, x2, x3]).drop 16 = [] := rfl
theorem rowsL_ren (f : Nat → Nat) (s : Nat → Nat) : rens f (rowsL s) = rowsL fun c => f (s c) := rfl
theorem rowsL_congr {s s' : Nat → Nat} (h : ∀ c, c < 3 → s c = s' c) : rowsL s = rowsL s' := by
  unfold rowsL; rw [h 0 (by decide), h 1 (by decide), h 2 (by decide)]
theorem gm7 (L : Nat) {b : Nat} (h : B3 b) : gmap [7, 8, 9, 10] L b = 7 + b := by
  rcases h with rfl | rfl | rfl <;> rfl
theorem gm11 (L : Nat) {b : Nat} (h : B3 b) : gmap [0, 1, 2, 3, 4, 5, 6, 7, 8, 9, 10] L (7 + b) = 7 + b := by
  rcases h with rfl | rfl | rfl <;> rfl
theorem lk11 (X0 X1 X2 X3 X4 X5 X6 X7 : Option Blk) (Y : Nat → Nat → Nat) (r : Heap) {b : Nat} (h : B3 b) : ([X0, X1, X2, X3, X4, X5, X6, X7, some ⟨.rw, scs 4 (Y 1)⟩, some ⟨.rw, scs 4 (Y 2)⟩, some ⟨.rw, scs 4 (Y 3)⟩] ++ r)[7 + b]? = some (some ⟨.rw, scs 4 (Y b)⟩) := by
  rcases h with rfl | rfl | rfl <;> rfl
theorem solve_ (hG : G 0 = tbl) (A : Nat → Nat → Nat) (w : Nat → Nat) (hA : ∀ c j, A c j < 115792089237316195423570985008687907853269984665640564039457584007913129639936) (hw : ∀ c, w c < 115792089237316195423570985008687907853269984665640564039457584007913129639936) (cr : Cap)
    (hn : ∀ x, Go.VsP.Sol (fun c j => Go.VsP.ph (aug A w c j)) 0 x → x 0 = 0 ∧ x 1 = 0 ∧ x 2 = 0) {Q : V → Heap → Prop}
    (hQ : ∀ x : Nat → Nat, (∀ j, x j < 115792089237316195423570985008687907853269984665640564039457584007913129639936) → Go.VsP.Sol (fun c j => Go.VsP.ph (aug A w c j)) 1 (fun j => Go.VsP.ph (x j)) → Q (.tup [.sl 5 0 3 (.grow 4), .int .i64 0]) [none, none, none, none, none, some ⟨.grow, scs 3 x⟩]) :
    VCall Tryd.prog G 24 [.sl 0 0 3 cr, .sl 4 0 3 (.exact 3)] [some ⟨.ro, [.sl 1 0 3 (.exact 3), .sl 2 0 3 (.exact 3), .sl 3 0 3 (.exact 3)]⟩, some ⟨.ro, scs 3 (A 0)⟩, some ⟨.ro, scs 3 (A 1)⟩, some ⟨.ro, scs 3 (A 2)⟩, some ⟨.ro, scs 3 w⟩] Q := by
  refine vcall_body Tryd.func24 nm24 code24 nt24 ?_
  refine run_driveS 80 ?_
  simp only [go_sem, v24, v24_0, v24_1]
  refine run_driveS 80 ?_
  simp only [go_sem, v24_2]
  refine run_cond_f (by rfl) ?_
  refine run_driveS 80 ?_
  simp only [go_sem, v24_4, v24_5, v24_14, List.flatten_cons, List.flatten_nil]
  have w1 : IntKind.i64.wrap 1 = 1 := by decide
  have w2 : IntKind.i64.wrap 2 = 2 := by decide
  have w3 : IntKind.i64.wrap 3 = 3 := by decide
  have w4 : IntKind.i64.wrap 4 = 4 := by decide
  refine run_loop_eq v24_13.eq_1 ?_
  refine run_driveS 80 ?_
  simp only [go_sem, v24_6, v24_11, v24_7]
  refine run_driveS 80 ?_
  simp only [go_sem, v24_8]
  refine run_cond_f (by rfl) ?_
  refine run_driveS 80 ?_
  simp only [go_sem]
  refine run_drw (by kernel_rfl) ?_
  refine drun_drive 40 (p := (_, _)) ?_
  simp only [go_sem, v24_10, List.flatten_cons, List.flatten_nil, w4, scs3_take, scs3_0, scs3_1, scs3_2, scs3_t, scs3_d, scs3_ne, lc_ne, aug_cat A w 0, restore, Option.join_some, maskH, List.mapIdx_cons, List.mapIdx_nil, List.contains_cons, List.contains_nil, Bool.or_false, Bool.or_true, Bool.false_or, Bool.true_or, Nat.reduceBEq]
  refine drun_end ?_
  refine run_driveS 80 ?_
  simp only [go_sem, v24_12, w1]
  refine run_loop_eq v24_13.eq_1 ?_
  refine run_driveS 80 ?_
  simp only [go_sem, v24_6, v24_11, v24_7]
  refine run_driveS 80 ?_
  simp only [go_sem, v24_8]
  refine run_cond_f (by rfl) ?_
  refine run_driveS 80 ?_
  simp only [go_sem]
  refine run_drw (by kernel_rfl) ?_
  refine drun_drive 40 (p := (_, _)) ?_
  simp only [go_sem, v24_10, List.flatten_cons, List.flatten_nil, w4, scs3_take, scs3_0, scs3_1, scs3_2, scs3_t, scs3_d, scs3_ne, lc_ne, aug_cat A w 1, restore, Option.join_some, maskH, List.mapIdx_cons, List.mapIdx_nil, List.contains_cons, List.contains_nil, Bool.or_false, Bool.or_true, Bool.false_or, Bool.true_or, Nat.reduceBEq]
  refine drun_end ?_
  refine run_driveS 80 ?_
  simp only [go_sem, v24_12, w2]
  refine run_loop_eq v24_13.eq_1 ?_
  refine run_driveS 80 ?_
  simp only [go_sem, v24_6, v24_11, v24_7]
  refine run_driveS 80 ?_
  simp only [go_sem, v24_8]
  refine run_cond_f (by rfl) ?_
  refine run_driveS 80 ?_
  simp only [go_sem]
  refine run_drw (by kernel_rfl) ?_
  refine drun_drive 40 (p := (_, _)) ?_
  simp only [go_sem, v24_10, List.flatten_cons, List.flatten_nil, w4, scs3_take, scs3_0, scs3_1, scs3_2, scs3_t, scs3_d, scs3_ne, lc_ne, aug_cat A w 2, restore, Option.join_some, maskH, List.mapIdx_cons, List.mapIdx_nil, List.contains_cons, List.contains_nil, Bool.or_false, Bool.or_true, Bool.false_or, Bool.true_or, Nat.reduceBEq]
  refine drun_end ?_
  refine run_driveS 80 ?_
  simp only [go_sem, v24_12, w3]
  refine run_loop_eq v24_13.eq_1 ?_
  refine run_driveS 80 ?_
  simp only [go_sem, v24_6]
  refine run_exit rfl ?_
  refine run_driveS 80 ?_
  simp only [go_sem, v24_15]
  refine run_dfr rfl ?_
  refine run_driveS 80 ?_
  simp only [go_sem, v24_16, v24_23]
  refine run_rename [0, 1, 2, 3, 4, 5, 6, 7, 8, 10, 12] (st' := ⟨List.replicate 4 .unk ++ [.ptr 5 0, .ptr 6 0, .int .i64 (3 : Nat), .sl 7 0 3 (.exact 3)] ++ List.replicate 40 .unk ++ [.int .i64 (3 : Nat), .int .i64 (0 : Nat)] ++ List.replicate 21 .unk, [some ⟨.ro, [.sl 1 0 3 (.exact 3), .sl 2 0 3 (.exact 3), .sl 3 0 3 (.exact 3)]⟩, some ⟨.ro, scs 3 (A 0)⟩, some ⟨.ro, scs 3 (A 1)⟩, some ⟨.ro, scs 3 (A 2)⟩, some ⟨.ro, scs 3 w⟩, some ⟨.rw, [.nils]⟩, some ⟨.rw, [.int .i64 0]⟩, some ⟨.rw, rowsL fun c => 7 + (fun c => 1 + c) c⟩, some ⟨.rw, scs 4 ((fun b => aug A w (b - 1)) 1)⟩, some ⟨.rw, scs 4 ((fun b => aug A w (b - 1)) 2)⟩, some ⟨.rw, scs 4 ((fun b => aug A w (b - 1)) 3)⟩]⟩) rfl (by simp) ?_ (uniq_nodup' (by decide)) ?_ (run_inv (fun a : Nat × (Nat → Nat) × (Nat → Nat → Nat) => ⟨List.replicate 4 .unk ++ [.ptr 5 0, .ptr 6 0, .int .i64 (3 : Nat), .sl 7 0 3 (.exact 3)] ++ List.replicate 40 .unk ++ [.int .i64 (3 : Nat), .int .i64 (a.1 : Nat)] ++ List.replicate 21 .unk, [some ⟨.ro, [.sl 1 0 3 (.exact 3), .sl 2 0 3 (.exact 3), .sl 3 0 3 (.exact 3)]⟩, some ⟨.ro, scs 3 (A 0)⟩, some ⟨.ro, scs 3 (A 1)⟩, some ⟨.ro, scs 3 (A 2)⟩, some ⟨.ro, scs 3 w⟩, some ⟨.rw, [.nils]⟩, some ⟨.rw, [.int .i64 0]⟩, some ⟨.rw, rowsL fun c => 7 + a.2.1 c⟩, some ⟨.rw, scs 4 (a.2.2 1)⟩, some ⟨.rw, scs 4 (a.2.2 2)⟩, some ⟨.rw, scs 4 (a.2.2 3)⟩]⟩) (fun a => Elim (fun c j => Go.VsP.ph (aug A w c j)) a.1 a.2.1 a.2.2) (fun a => 3 - a.1) ?_ (0, (fun c => 1 + c), (fun b => aug A w (b - 1))) ?_)
  · exact hfit_cons rfl (jb_g rfl) (hfit_cons rfl (jb_g (scs_rens ..)) (hfit_cons rfl (jb_g (scs_rens ..)) (hfit_cons rfl (jb_g (scs_rens ..)) (hfit_cons rfl (jb_g (scs_rens ..)) (hfit_cons rfl (jb_g rfl) (hfit_cons rfl (jb_g rfl) (hfit_cons rfl (jb_rw rfl) (hfit_cons rfl (jb_g (scs_rens ..)) (hfit_cons rfl (jb_g (scs_rens ..)) (hfit_cons rfl (jb_g (scs_rens ..)) hfit_nil))))))))))
  · simp only [go_sem, fit, ren, gmap, true_or, or_true]
  · rintro ⟨k, s, Y⟩ I K
    have I : Elim (fun c j => Go.VsP.ph (aug A w c j)) k s Y := I
    have k3 := I.k3
    dsimp only
    by_cases hk3 : k = 3
    · subst hk3
      have b0 : s 0 = 1 ∨ s 0 = 2 ∨ s 0 = 3 := I.b3 0 (by decide)
      have b1 : s 1 = 1 ∨ s 1 = 2 ∨ s 1 = 3 := I.b3 1 (by decide)
      have b2 : s 2 = 1 ∨ s 2 = 2 ∨ s 2 = 3 := I.b3 2 (by decide)
      have d01 := I.inj 0 1 (by decide) (by decide) (by decide)
      have d02 := I.inj 0 2 (by decide) (by decide) (by decide)
      have d12 := I.inj 1 2 (by decide) (by decide) (by decide)
      refine run_loop_eq v24_22.eq_1 ?_
      refine run_driveS 80 ?_
      simp only [go_sem, v24_17]
      refine run_exit rfl ?_
      refine run_driveS 80 ?_
      simp only [go_sem, v24_24, v24_31]
      refine run_rename [0, 1, 2, 3, 4, 5, 6, 7, 7 + s 0, 7 + s 1, 7 + s 2] (st' := ⟨List.replicate 4 .unk ++ [.ptr 5 0, .ptr 6 0, .int .i64 (3 : Nat)] ++ List.replicate 49 .unk ++ [.sl 7 0 3 (.exact 3), .int .i64 (3 : Nat), .int .i64 (0 : Nat)] ++ List.replicate 12 .unk, [some ⟨.ro, [.sl 1 0 3 (.exact 3), .sl 2 0 3 (.exact 3), .sl 3 0 3 (.exact 3)]⟩, some ⟨.ro, scs 3 (A 0)⟩, some ⟨.ro, scs 3 (A 1)⟩, some ⟨.ro, scs 3 (A 2)⟩, some ⟨.ro, scs 3 w⟩, some ⟨.rw, [.nils]⟩, some ⟨.rw, [.int .i64 0]⟩, some ⟨.rw, rowsL fun c => 8 + c⟩, some ⟨.rw, scs 4 (Y (s 0))⟩, some ⟨.rw, scs 4 (Y (s 1))⟩, some ⟨.rw, scs 4 (Y (s 2))⟩]⟩) rfl (fun i hi => by simp only [List.drop_succ_cons, List.drop_zero, List.mem_cons, List.not_mem_nil, or_false] at hi; omega) ?_ (uniq_nodup' (by simp; omega)) ?_ ?_
      · exact hfit_cons rfl (jb_g rfl) (hfit_cons rfl (jb_g (scs_rens ..)) (hfit_cons rfl (jb_g (scs_rens ..)) (hfit_cons rfl (jb_g (scs_rens ..)) (hfit_cons rfl (jb_g (scs_rens ..)) (hfit_cons rfl (jb_g rfl) (hfit_cons rfl (jb_g rfl) (hfit_cons rfl (jb_rw rfl) (hfit_cons (lk11 _ _ _ _ _ _ _ _ Y [] (I.b3 0 (by decide))) (jb_g (scs_rens ..)) (hfit_cons (lk11 _ _ _ _ _ _ _ _ Y [] (I.b3 1 (by decide))) (jb_g (scs_rens ..)) (hfit_cons (lk11 _ _ _ _ _ _ _ _ Y [] (I.b3 2 (by decide))) (jb_g (scs_rens ..)) hfit_nil))))))))))
      · simp only [go_sem, fit, ren, gmap, true_or, or_true]
      have xd : ∀ c, ((scs 4 (Y c)).drop 12).take 4 = lc (Y c 3) := fun _ => rfl
      refine run_loop_eq v24_30.eq_1 ?_
      refine run_driveS 80 ?_
      simp only [go_sem, v24_25, v24_28, v24_26]
      refine run_driveS 80 ?_
      simp only [go_sem]
      refine run_drw (by kernel_rfl) ?_
      refine drun_drive 40 (p := (_, _)) ?_
      simp only [go_sem, v24_27, xd, restore, Option.join_some, maskH, List.mapIdx_cons, List.mapIdx_nil, List.contains_cons, List.contains_nil, Bool.or_false, Bool.or_true, Bool.false_or, Bool.true_or, Nat.reduceBEq]
      refine drun_end ?_
      refine run_driveS 80 ?_
      simp only [go_sem, v24_29, w1]
      refine run_loop_eq v24_30.eq_1 ?_
      refine run_driveS 80 ?_
      simp only [go_sem, v24_25, v24_28, v24_26]
      refine run_driveS 80 ?_
      simp only [go_sem]
      refine run_drw (by kernel_rfl) ?_
      refine drun_drive 40 (p := (_, _)) ?_
      simp only [go_sem, v24_27, xd, restore, Option.join_some, maskH, List.mapIdx_cons, List.mapIdx_nil, List.contains_cons, List.contains_nil, Bool.or_false, Bool.or_true, Bool.false_or, Bool.true_or, Nat.reduceBEq]
      refine drun_end ?_
      refine run_driveS 80 ?_
      simp only [go_sem, v24_29, w2]
      refine run_loop_eq v24_30.eq_1 ?_
      refine run_driveS 80 ?_
      simp only [go_sem, v24_25, v24_28, v24_26]
      refine run_driveS 80 ?_
      simp only [go_sem]
      refine run_drw (by kernel_rfl) ?_
      refine drun_drive 40 (p := (_, _)) ?_
      simp only [go_sem, v24_27, xd, restore, Option.join_some, maskH, List.mapIdx_cons, List.mapIdx_nil, List.contains_cons, List.contains_nil, Bool.or_false, Bool.or_true, Bool.false_or, Bool.true_or, Nat.reduceBEq]
      refine drun_end ?_
      refine run_driveS 80 ?_
      simp only [go_sem, v24_29, w3]
      refine run_loop_eq v24_30.eq_1 ?_
      refine run_driveS 80 ?_
      simp only [go_sem, v24_25]
      refine run_exit rfl ?_
      refine run_driveS 80 ?_
      simp only [go_sem, v24_32]
      refine run_ret_drop_df Tryd.func24 dnop36 res24 [0, 1, 2, 3, 4, 16] (.tup [.sl 5 0 3 (.grow 4), .int .i64 0]) [none, none, none, none, none, some ⟨.grow, scs 3 fun j => Y (s j) 3⟩] rfl (by simp) (hfit_cons_none (hfit_cons_none (hfit_cons_none (hfit_cons_none (hfit_cons_none (hfit_cons rfl ?_ hfit_nil)))))) (uniq_nodup' (by decide)) (by simp only [go_sem, rr24, ren, rens, gmap]) (hQ _ (fun j => I.lt _ _) I.done)
      rw [show (scs 3 fun j => Y (s j) 3) = lc (Y (s 0) 3) ++ lc (Y (s 1) 3) ++ lc (Y (s 2) 3) from rfl]
      exact jb_g (by simp only [rens_append, lc_rens])
    · have hk : k < 3 := by omega
      have h0 : ((k : Int) < 3) = True := eq_true (by omega)
      have hw : IntKind.i64.wrap ((k : Int) + 1) = ((k + 1 : Nat) : Int) := by rw [wrap_i64 (by omega) (by omega)]; omega
      refine run_loop_eq v24_22.eq_1 ?_
      refine run_driveS 80 ?_
      simp only [go_sem, v24_17, v24_20, v24_18, v24_19, h0]
      refine run_call' rfl ?_
      simp only [go_sem, calV]
      have hp := I.pivot hk fun x hx => by
        obtain ⟨x0, x1, x2⟩ := hn x hx
        have : k = 0 ∨ k = 1 ∨ k = 2 := by omega
        rcases this with rfl | rfl | rfl <;> assumption
      refine vcall_at (clear_ hG k hk s I.b3 I.inj Y I.lt hp (Q := fun v h => v = .tup [] ∧ ∃ p Z, Cl s Y k p Z ∧ h = [some ⟨.rw, rowsL (swp s k p)⟩, some ⟨.rw, scs 4 (Z 1)⟩, some ⟨.rw, scs 4 (Z 2)⟩, some ⟨.rw, scs 4 (Z 3)⟩]) fun p Z hZ => ⟨rfl, p, Z, hZ, rfl⟩) [7, 8, 9, 10] (by simp) ?_ (uniq_nodup' (by decide)) ?_ ?_
      · exact hfit_cons rfl (jb_rw (by rw [rowsL_ren]; exact rowsL_congr fun c hc => gm7 _ (I.b3 c hc))) (hfit_cons rfl (jb_g (scs_rens ..)) (hfit_cons rfl (jb_g (scs_rens ..)) (hfit_cons rfl (jb_g (scs_rens ..)) hfit_nil)))
      · simp only [rens, ren, gmap]
      rintro v h' ⟨rfl, p, Z, hZ, rfl⟩
      simp only [puts, wrB, Bool.false_eq_true, if_false, if_true, List.set_cons_zero, List.set_cons_succ, Option.map_some, renB, scs_rens, rowsL_ren, rens, ren, gmap, List.append_nil, List.map_nil]
      refine run_driveS 80 ?_
      simp only [go_sem, v24_21, hw]
      rw [rowsL_congr (s' := fun c => 7 + swp s k p c) fun c hc => gm7 _ (swp_b3 I.b3 hk hZ.p3 c hc)]
      refine run_rename [0, 1, 2, 3, 4, 5, 6, 7, 8, 9, 10] rfl (by simp) ?_ (uniq_nodup' (by decide)) ?_ (K (k + 1, swp s k p, Z) (I.step hk hZ) (by show 3 - (k + 1) < 3 - k; omega))
      · exact hfit_cons rfl (jb_g rfl) (hfit_cons rfl (jb_g (scs_rens ..)) (hfit_cons rfl (jb_g (scs_rens ..)) (hfit_cons rfl (jb_g (scs_rens ..)) (hfit_cons rfl (jb_g (scs_rens ..)) (hfit_cons rfl (jb_g rfl) (hfit_cons rfl (jb_g rfl) (hfit_cons rfl (jb_g (by rw [rowsL_ren]; exact rowsL_congr fun c hc => gm11 _ (swp_b3 I.b3 hk hZ.p3 c hc))) (hfit_cons rfl (jb_g (scs_rens ..)) (hfit_cons rfl (jb_g (scs_rens ..)) (hfit_cons rfl (jb_g (scs_rens ..)) hfit_nil))))))))))
      · simp only [go_sem, fit, ren, gmap, true_or, or_true]
  · refine ⟨Nat.zero_le _, fun c hc => ?_, fun c d hc hd h => ?_, fun b j => aug_lt hA hw _ j, fun z x => sol_congr (fun c hc j => ?_) z x, fun c j hc hj => absurd hj (Nat.not_lt_zero j)⟩
    · show B3 (1 + c)
      unfold B3; omega
    · show 1 + c ≠ 1 + d
      omega
    · show Go.VsP.ph (aug A w (1 + c - 1) j) = _
      rw [Nat.add_sub_cancel_left]
end Go.Vs.Tryd
