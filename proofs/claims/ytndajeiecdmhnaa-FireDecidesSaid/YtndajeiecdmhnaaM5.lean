/- Plain laws of fire: a fire without some looks; Suspects; Far; comparisons. No program in sight. -/
import Derived.Test.YtndajeiecdmhnaaM4
set_option linter.unusedVariables false
namespace Go.Proofs.Ytndajeiecdmhnaa

/-! ### A fire without some looks -/
/-! ### The IDs of looks of which something is so -/
/-! #### put -/
end Go.Proofs.Ytndajeiecdmhnaa
