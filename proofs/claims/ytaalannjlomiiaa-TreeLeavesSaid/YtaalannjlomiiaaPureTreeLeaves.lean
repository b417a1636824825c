/- For every two numbers the program's count of a tree's leaves is the document's: of the Params in the law's table and of the two that come in. It holds with no condition. -/
import Derived.Test.YtaalannjlomiiaaPTreeLeavesx2
namespace Go.Proofs.Ytaalannjlomiiaa.Pure
open Go.RowKit Go.Proofs.Ytaalannjlomiiaa.PTreeLeaves Go.Proofs.YtaalannjlomiiaaW.PrintWords Go.Proofs.YtaalannjlomiiaaW.PrintLast

theorem small_same : ∀ a : Fin 65, ∀ b : Fin 17, api_Params_Allowed.f (a.val : Int) (b.val : Int) = some true →
    tree_Leaves.f 32 (a.val : Int) (b.val : Int) = veilref17_Leaves.f 32 (a.val : Int) (b.val : Int) ∧ (tree_Leaves.f 32 (a.val : Int) (b.val : Int)).isSome = true := by
  decide +kernel

theorem allowed_some (a b : Int) : (∃ c, api_Params_Allowed.f a b = some c) ∧ (api_Params_Allowed.f a b = some true → 1 ≤ a ∧ a ≤ 64 ∧ 1 ≤ b ∧ b ≤ 16) := by
  unfold api_Params_Allowed.f
  constructor
  · (repeat' split) <;> exact ⟨_, rfl⟩
  · (repeat' split) <;> simp_all

theorem same_at (a b : Int) : ∃ r, tree_Leaves.f 32 a b = some r ∧ veilref17_Leaves.f 32 a b = some r := by
  obtain ⟨⟨c, hc⟩, hb⟩ := allowed_some a b
  cases c with
  | false =>
    refine ⟨0, ?_, ?_⟩
    · unfold tree_Leaves.f; rw [hc]; rfl
    · unfold veilref17_Leaves.f; rw [hc]; rfl
  | true =>
    obtain ⟨h1, h2, h3, h4⟩ := hb hc
    have h := small_same ⟨a.toNat, by omega⟩ ⟨b.toNat, by omega⟩
    simp only [Int.toNat_of_nonneg (show 0 ≤ a by omega), Int.toNat_of_nonneg (show 0 ≤ b by omega)] at h
    obtain ⟨e, s⟩ := h hc
    obtain ⟨r, hr⟩ := Option.isSome_iff_exists.1 s
    exact ⟨r, hr, by rw [← e]; exact hr⟩

theorem tree_more (a b : Int) (r : Int) (h : tree_Leaves.f 32 a b = some r) : ∀ d, tree_Leaves.f (32 + d) a b = some r
  | 0 => h
  | d + 1 => tree_Leaves.mono a b (32 + d) r (tree_more a b r h d)
theorem ref_more (a b : Int) (r : Int) (h : veilref17_Leaves.f 32 a b = some r) : ∀ d, veilref17_Leaves.f (32 + d) a b = some r
  | 0 => h
  | d + 1 => veilref17_Leaves.mono a b (32 + d) r (ref_more a b r h d)

theorem same (a b : Int) (k : Nat) (hk : 32 ≤ k) : ∃ r, tree_Leaves.f k a b = some r ∧ veilref17_Leaves.f k a b = some r := by
  obtain ⟨r, h1, h2⟩ := same_at a b
  obtain ⟨d, rfl⟩ := Nat.exists_eq_add_of_le hk
  exact ⟨r, tree_more a b r h1 d, ref_more a b r h2 d⟩

theorem last (a0 a1 : Int) (k : Nat) (hk : 32 ≤ k) (x : Int) (hx : ¬ x < 70) : veillaw17_TreeLeaves.l0 (k + 1) a0 a1 x = some true := by
  obtain ⟨r, h1, h2⟩ := same a0 a1 k hk
  simp only [veillaw17_TreeLeaves.l0]
  rw [if_neg hx, h1, h2]
  simp

theorem wrap_small (x : Int) (h0 : -1 ≤ x) (h1 : x < 70) : wrap64 (x + 1) = x + 1 := by unfold wrap64; omega

/-- The inner loop from y on: it goes on to the outer one at x + 1. -/
theorem inner (a0 a1 x : Int) (K : Nat) (hK : 32 ≤ K) (hnext : ∀ k, K ≤ k → veillaw17_TreeLeaves.l0 k a0 a1 (wrap64 (x + 1)) = some true) (d : Nat) :
    ∀ (y : Int) (k : Nat), -1 ≤ y → y ≤ 20 → 20 - y = d → K + d + 1 ≤ k → veillaw17_TreeLeaves.l1 k a0 a1 x y = some true := by
  induction d with
  | zero =>
    intro y k h0 h1 hd hk
    obtain ⟨k, rfl⟩ : ∃ m, k = m + 1 := ⟨k - 1, by omega⟩
    simp only [veillaw17_TreeLeaves.l1]
    rw [if_neg (by omega)]
    exact hnext k (by omega)
  | succ d ih =>
    intro y k h0 h1 hd hk
    obtain ⟨k, rfl⟩ : ∃ m, k = m + 1 := ⟨k - 1, by omega⟩
    obtain ⟨r, e1, e2⟩ := same x y k (by omega)
    simp only [veillaw17_TreeLeaves.l1]
    rw [if_pos (by omega), e1, e2]
    simp only [Option.bind_some, if_true]
    rw [wrap_small y h0 (by omega)]
    exact ih (y + 1) k (by omega) (by omega) (by omega) (by omega)

theorem outer (a0 a1 : Int) (d : Nat) : ∀ (x : Int) (k : Nat), -1 ≤ x → x ≤ 70 → 70 - x = d → 33 + 23 * d ≤ k → veillaw17_TreeLeaves.l0 k a0 a1 x = some true := by
  induction d with
  | zero =>
    intro x k h0 h1 hd hk
    obtain ⟨k, rfl⟩ : ∃ m, k = m + 1 := ⟨k - 1, by omega⟩
    exact last a0 a1 k (by omega) x (by omega)
  | succ d ih =>
    intro x k h0 h1 hd hk
    obtain ⟨k, rfl⟩ : ∃ m, k = m + 1 := ⟨k - 1, by omega⟩
    simp only [veillaw17_TreeLeaves.l0]
    rw [if_pos (by omega)]
    refine inner a0 a1 x (33 + 23 * d) (by omega) ?_ 21 (-1) k (by omega) (by omega) (by omega) (by omega)
    intro k' hk'
    rw [wrap_small x h0 (by omega)]
    exact ih (x + 1) k' (by omega) (by omega) (by omega) hk'

theorem TreeLeaves : veillaw17_TreeLeaves.Pure := by
  intro a0 a1 _ _
  exact ⟨33 + 23 * 71, outer a0 a1 71 (-1) _ (by omega) (by omega) (by omega) (Nat.le_refl _)⟩

end Go.Proofs.Ytaalannjlomiiaa.Pure
