/- Words for walks: conversions of numbers. -/
import Derived.Test.YtndajeiecdmhnaaGq
namespace Go.Proofs.Ytndajeiecdmhnaa
open Go.RowKit (Below)
section
variable {r : Option Nat} {n : Nat} {P : Program} {ρ : Operand → Value}
variable {t : Option Tmp} {ty : TypeId} {pos : String} {af : Array Edge} {g : Option (Nat × Bool)} {C : World → Prop}
end
section
variable {r : Option Nat} {n : Nat} {P : Program} {ops : Array Oper} {Q : Exit → Act → World → Prop} {w0 : World} {L L' : List Res} {m : Nat} {tm : Nat → Value} {d : List Deferred}
end
end Go.Proofs.Ytndajeiecdmhnaa
