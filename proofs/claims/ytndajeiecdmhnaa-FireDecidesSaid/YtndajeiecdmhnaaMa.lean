/- Plain laws of fire: Coolest, Hottest, Fits, CheckEnds. No program in sight. -/
import Derived.Test.YtndajeiecdmhnaaM7
set_option linter.unusedVariables false
namespace Go.Proofs.Ytndajeiecdmhnaa

/-! ### Lists of spots -/
def ListS (f : TFire) (l : List TSpot) : Int := if CheckS f = 0 then if 24 < l.length then 2 else spotsS f l else CheckS f
theorem ListS_0 {f : TFire} {l : List TSpot} : ListS f l = 0 ↔ CheckS f = 0 ∧ l.length ≤ 24 ∧ ∀ s ∈ l, OkSpot s := by
  unfold ListS
  by_cases h1 : CheckS f = 0
  · rw [if_pos h1]
    by_cases h2 : 24 < l.length
    · rw [if_pos h2]
      exact ⟨fun h => (by cases h), fun h => by omega⟩
    · rw [if_neg h2, spotsS_0]
      exact ⟨fun h => ⟨h.1, by omega, h.2⟩, fun h => ⟨h.1, h.2.2⟩⟩
  · rw [if_neg h1]
    exact ⟨fun h => absurd h h1, fun h => absurd h.1 h1⟩
theorem listed_eq {f : TFire} {l : List TSpot} (hf : f.fLooks.length < 1000000) (hl : l.length < 1000000) : fire_listed f l = some (ListS f l) := by
  unfold fire_listed ListS
  rw [Check_eq f (by omega), Option.bind_some]
  by_cases h1 : CheckS f = 0
  · rw [if_pos h1, h1, if_neg (by decide)]
    by_cases h2 : 24 < l.length
    · rw [ite_t (by omega), if_pos h2]
    · rw [ite_f (by omega), if_neg h2, spots_eq hf hl]
      rfl
  · rw [if_neg h1, if_pos (by simpa using h1)]
/-! ### Fits -/
/-- Heats that spots can have, all at once. -/
def FitQ (f : TFire) (l : List TSpot) (hs : List Int) : Prop := ∀ i, i < l.length → (loS f (l.getD i default) ≤ hs.getD i 0 ∧ hs.getD i 0 ≤ hiS f (l.getD i default)) ∧ ∀ k, k < l.length → hs.getD k 0 ≤ hs.getD i 0 + farS f (l.getD i default) (l.getD k default)
instance (f : TFire) (l : List TSpot) (hs : List Int) : Decidable (FitQ f l hs) := by unfold FitQ; infer_instance
def bad2 (f : TFire) (l : List TSpot) (hs : List Int) (i k : Nat) : Prop := hs.getD i 0 + farS f (l.getD i default) (l.getD k default) < hs.getD k 0 ∨ (l.getD i default = l.getD k default ∧ hs.getD i 0 ≠ hs.getD k 0)
instance (f : TFire) (l : List TSpot) (hs : List Int) (i k : Nat) : Decidable (bad2 f l hs i k) := by unfold bad2; infer_instance
section
variable {f : TFire} {l : List TSpot} {hs : List Int}
end

/-! ### CheckEnds -/
def showsQ (f : TFire) (t : TLook → Int) (id end_ none_ : Int) : Prop := (id = 0 ∧ end_ = none_) ∨ ∃ x ∈ f.fLooks, x.fID = id ∧ t x = end_
instance (f : TFire) (t : TLook → Int) (id end_ none_ : Int) : Decidable (showsQ f t id end_ none_) := by unfold showsQ; infer_instance
/-! ### The ends as a field -/
section
variable {f : TFire}
theorem lo_hi (h : OkF f) (ha : agreeS f = true) {p : TSpot} (hp : OkSpot p) : loS f p ≤ hiS f p := by
  unfold agreeS at ha
  rw [decide_eq_true_eq] at ha
  rcases loS_at f p with h1 | ⟨x, hx, h1⟩
  · rcases hiS_at f p with h2 | ⟨y, hy, h2⟩
    · omega
    · have := high_rg h.1 hp (h.2.2.1 y hy)
      omega
  · rcases hiS_at f p with h2 | ⟨y, hy, h2⟩
    · have := low_rg h.1 hp (h.2.2.1 x hx)
      omega
    · have h3 := ha y hy x hx
      unfold agS at h3
      simp only [decide_eq_false_iff_not] at h3
      have h4 := far_tri h.1 y.fAt p x.fAt
      unfold lowS at h1
      unfold highS at h2
      omega
end
end Go.Proofs.Ytndajeiecdmhnaa
