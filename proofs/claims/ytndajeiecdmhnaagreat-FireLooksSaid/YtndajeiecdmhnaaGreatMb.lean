/- The plain law FireBetween. No program in sight. -/
import Derived.Test.YtndajeiecdmhnaaGreatMa
set_option linter.unusedVariables false
namespace Go.Proofs.YtndajeiecdmhnaaGreat

def shortQ (l : List TSpot) : Prop := l.length ≤ 12 ∨ (24 < l.length ∧ l.length ≤ 40)
instance (l : List TSpot) : Decidable (shortQ l) := by unfold shortQ; infer_instance
theorem short_eq (l : List TSpot) : calxlaw02_short l = some (decide (shortQ l)) := by
  unfold calxlaw02_short
  refine congrArg some ?_
  rw [Bool.eq_iff_iff]
  simp only [Bool.or_eq_true, Bool.and_eq_true, decide_eq_true_eq]
  unfold shortQ
  omega
section
variable {f : TFire} {l : List TSpot}
end
end Go.Proofs.YtndajeiecdmhnaaGreat
