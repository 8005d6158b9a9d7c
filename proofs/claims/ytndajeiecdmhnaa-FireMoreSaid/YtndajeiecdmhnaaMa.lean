/- Plain laws of fire: Coolest, Hottest, Fits, CheckEnds. No program in sight. -/
import Derived.Test.YtndajeiecdmhnaaM7
set_option linter.unusedVariables false
namespace Go.Proofs.Ytndajeiecdmhnaa

/-! ### Lists of spots -/
/-! ### Fits -/
/-- Heats that spots can have, all at once. -/
def FitQ (f : TFire) (l : List TSpot) (hs : List Int) : Prop := ∀ i, i < l.length → (loS f (l.getD i default) ≤ hs.getD i 0 ∧ hs.getD i 0 ≤ hiS f (l.getD i default)) ∧ ∀ k, k < l.length → hs.getD k 0 ≤ hs.getD i 0 + farS f (l.getD i default) (l.getD k default)
instance (f : TFire) (l : List TSpot) (hs : List Int) : Decidable (FitQ f l hs) := by unfold FitQ; infer_instance
def bad2 (f : TFire) (l : List TSpot) (hs : List Int) (i k : Nat) : Prop := hs.getD i 0 + farS f (l.getD i default) (l.getD k default) < hs.getD k 0 ∨ (l.getD i default = l.getD k default ∧ hs.getD i 0 ≠ hs.getD k 0)
instance (f : TFire) (l : List TSpot) (hs : List Int) (i k : Nat) : Decidable (bad2 f l hs i k) := by unfold bad2; infer_instance
section
variable {f : TFire} {l : List TSpot} {hs : List Int}
end

/-! ### CheckEnds -/
def showsQ (f : TFire) (t : TLook → Int) (id end_ none_ : Int) : Prop := (id = 0 ∧ end_ = none_) ∨ ∃ x ∈ f.fLooks, x.fID = id ∧ t x = end_
instance (f : TFire) (t : TLook → Int) (id end_ none_ : Int) : Decidable (showsQ f t id end_ none_) := by unfold showsQ; infer_instance
/-! ### The ends as a field -/
section
variable {f : TFire}
theorem lo_lip (h : OkF f) {p q : TSpot} (hp : OkSpot p) (hq : OkSpot q) : loS f q ≤ loS f p + farS f p q := by
  have hr := far_rg h.1 hp hq
  rcases loS_at f q with h1 | ⟨x, hx, h1⟩
  · have := loS_le f p
    omega
  · have h2 := loS_ge (at_ := p) hx
    have h3 := far_tri h.1 p q x.fAt
    unfold lowS at h1 h2
    omega
theorem hi_lip (h : OkF f) {p q : TSpot} (hp : OkSpot p) (hq : OkSpot q) : hiS f q ≤ hiS f p + farS f p q := by
  have hr := far_rg h.1 hp hq
  rcases hiS_at f p with h1 | ⟨x, hx, h1⟩
  · have := hiS_le f q
    omega
  · have h2 := hiS_ge (at_ := q) hx
    have h3 := far_tri h.1 x.fAt p q
    unfold highS at h1 h2
    omega
theorem lo_hi (h : OkF f) (ha : agreeS f = true) {p : TSpot} (hp : OkSpot p) : loS f p ≤ hiS f p := by
  unfold agreeS at ha
  rw [decide_eq_true_eq] at ha
  rcases loS_at f p with h1 | ⟨x, hx, h1⟩
  · rcases hiS_at f p with h2 | ⟨y, hy, h2⟩
    · omega
    · have := high_rg h.1 hp (h.2.2.1 y hy)
      omega
  · rcases hiS_at f p with h2 | ⟨y, hy, h2⟩
    · have := low_rg h.1 hp (h.2.2.1 x hx)
      omega
    · have h3 := ha y hy x hx
      unfold agS at h3
      simp only [decide_eq_false_iff_not] at h3
      have h4 := far_tri h.1 y.fAt p x.fAt
      unfold lowS at h1
      unfold highS at h2
      omega
end
end Go.Proofs.Ytndajeiecdmhnaa
