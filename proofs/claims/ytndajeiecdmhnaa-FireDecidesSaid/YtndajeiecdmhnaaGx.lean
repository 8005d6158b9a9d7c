/- Plain words: arrays of four. No program in sight. -/
import Derived.Test.YtndajeiecdmhnaaGp
namespace Go.Proofs.Ytndajeiecdmhnaa
/-- An array's element: of four. -/
def sel4 {α : Type} (a b c d : α) (i : Int) : α := if i = 0 then a else if i = 1 then b else if i = 2 then c else d
theorem in4 {i : Int} (h : 0 ≤ i ∧ i < 4) : i = 0 ∨ i = 1 ∨ i = 2 ∨ i = 3 := by omega
/-! Short names. -/
theorem lss {α : Type} (a b : α) (as : List α) (n : Nat) : (a :: as).set (n + 1) b = a :: as.set n b := rfl
end Go.Proofs.Ytndajeiecdmhnaa
