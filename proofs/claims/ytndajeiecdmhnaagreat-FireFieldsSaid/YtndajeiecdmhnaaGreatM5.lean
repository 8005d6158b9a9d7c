/- Plain laws of fire: a fire without some looks; Suspects; Far; comparisons. No program in sight. -/
import Derived.Test.YtndajeiecdmhnaaGreatM4
set_option linter.unusedVariables false
namespace Go.Proofs.YtndajeiecdmhnaaGreat

theorem rngB_of {x : Int} (h1 : -9223372036854775808 ≤ x) (h2 : x ≤ 9223372036854775807) : rngB x = true := by unfold rngB; simp [h1, h2]
/-! ### A fire without some looks -/
/-! ### The IDs of looks of which something is so -/
/-! #### put -/
end Go.Proofs.YtndajeiecdmhnaaGreat
