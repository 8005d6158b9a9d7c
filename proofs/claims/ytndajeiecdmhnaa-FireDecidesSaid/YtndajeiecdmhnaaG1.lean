/- Plain words: maps as lists of what was put into them. No program in sight. -/
import Derived.Test.YtndajeiecdmhnaaGx
namespace Go.Proofs.Ytndajeiecdmhnaa
def mgetV {κ β : Type} [DecidableEq κ] (z : β) : List (κ × β) → κ → β
  | [], _ => z
  | (k, v) :: m, x => if k = x then v else mgetV z m x
def mhasV {κ β : Type} [DecidableEq κ] : List (κ × β) → κ → Bool
  | [], _ => false
  | (k, _) :: m, x => if k = x then true else mhasV m x
end Go.Proofs.Ytndajeiecdmhnaa
