/- Plain words: arrays of four. No program in sight. -/
import Derived.Test.YtndajeiecdmhnaaGreatGp
namespace Go.Proofs.YtndajeiecdmhnaaGreat
/-- An array's element: of four. -/
def sel4 {α : Type} (a b c d : α) (i : Int) : α := if i = 0 then a else if i = 1 then b else if i = 2 then c else d
theorem in4 {i : Int} (h : 0 ≤ i ∧ i < 4) : i = 0 ∨ i = 1 ∨ i = 2 ∨ i = 3 := by omega
/-! Short names. -/
theorem lca {α : Type} (a : α) (as bs : List α) : (a :: as) ++ bs = a :: (as ++ bs) := rfl
theorem lna {α : Type} (as : List α) : [] ++ as = as := rfl
theorem lsz {α : Type} (a b : α) (as : List α) : (a :: as).set 0 b = b :: as := rfl
theorem lss {α : Type} (a b : α) (as : List α) (n : Nat) : (a :: as).set (n + 1) b = a :: as.set n b := rfl
end Go.Proofs.YtndajeiecdmhnaaGreat
