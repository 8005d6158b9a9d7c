/-
  No cell of these rows narrows 'for every input' (looked for: loops, veiled, ifaces, maps, wideKeys, modest, calm, conditions, laid).
  DERIVED. THE GIVEN ROWS OF THIS SEAT. 8 by the template 'for every input the law returns true; each argument reads behind the call as it read before'; 0 by the template 'total and deterministic' (their statements: YtndajeiecdmhnaaTotals.lean).
  GIVEN WITH THE SEED: the statements are not yours to turn. If you find one false, say at which input.
  Laid BY PROGRAM, IN A SANDBOX (cutbox-rows.mjs): the forced cells as the released guide's own fill.sh prints them over the translation a9e990bf0932ae50… (all of the seat's roots in one cut). By AI agents, Wed Nov 11 2026. No macro, syntax, notation, axiom, sorry.
-/
import Derived.Test.YtndajeiecdmhnaaChecked
import GoSem.Claim
import GoSem.ClaimJoined
import GoSem.ClaimMapViews
import Derived.JoinedTies
import Derived.KernelRfl
namespace Go.Proofs.Ytndajeiecdmhnaa
/- THE CELL 'sum', in the pinned program and in every row, IS THE sha256 OF THE DUMP (.gsa) THAT YtndajeiecdmhnaaProg.lean LOADS. Nothing in Lean hashes anything: it is a label: what it is worth is what the hold of that sum in a sandbox is worth. -/
noncomputable def Try.pinned : Pinned := { name := "ytndajeiecdmhnaa", sum := "a9e990bf0932ae50dc99afddcc3eedd9d1a122e030cb23534c12d020601a618a", checked := Try.checked }
namespace Rows
def none {H : Type} : Left H := { results := [], args := [] }

/-- 'calxlaw02.FireAnyOrder': WHATEVER THE INPUT: true; the input reads as it did. -/
def fireAnyOrderSpec : ChangeSpec := { name := "fireAnyOrder", fn := fun _ => fun
  | [d1, d2, d3] => { results := [.lit (.bool true)], args := [d1, d2, d3] }
  | _ => none }
def fireAnyOrderRow : OpenClaim := { program := "ytndajeiecdmhnaa", sum := "a9e990bf0932ae50dc99afddcc3eedd9d1a122e030cb23534c12d020601a618a", func := "calx/calxlaw02.FireAnyOrder", spec := "fireAnyOrder", unfollowed := true, recurses := true, plainKeys := false, apart := false }
def FireAnyOrderSaid : Prop := fireAnyOrderRow.holds Try.pinned (OpenSpec.ofChange fireAnyOrderSpec)

/-- ITS FALSE NEIGHBOUR: 'it returns false'. Refute it at one input. -/
def fireAnyOrderWrong : ChangeSpec := { name := "fireAnyOrder", fn := fun _ => fun
  | [d1, d2, d3] => { results := [.lit (.bool false)], args := [d1, d2, d3] }
  | _ => none }
def FireAnyOrderWrongFalsely : Prop := fireAnyOrderRow.holds Try.pinned (OpenSpec.ofChange fireAnyOrderWrong)

/-- 'calxlaw02.FirePaths': WHATEVER THE INPUT: true; the input reads as it did. -/
def firePathsSpec : ChangeSpec := { name := "firePaths", fn := fun _ => fun
  | [d1, d2, d3] => { results := [.lit (.bool true)], args := [d1, d2, d3] }
  | _ => none }
def firePathsRow : OpenClaim := { program := "ytndajeiecdmhnaa", sum := "a9e990bf0932ae50dc99afddcc3eedd9d1a122e030cb23534c12d020601a618a", func := "calx/calxlaw02.FirePaths", spec := "firePaths", unfollowed := true, recurses := true, plainKeys := false, apart := false }
def FirePathsSaid : Prop := firePathsRow.holds Try.pinned (OpenSpec.ofChange firePathsSpec)

/-- ITS FALSE NEIGHBOUR: 'it returns false'. Refute it at one input. -/
def firePathsWrong : ChangeSpec := { name := "firePaths", fn := fun _ => fun
  | [d1, d2, d3] => { results := [.lit (.bool false)], args := [d1, d2, d3] }
  | _ => none }
def FirePathsWrongFalsely : Prop := firePathsRow.holds Try.pinned (OpenSpec.ofChange firePathsWrong)

/-- 'calxlaw02.FireContradicts': WHATEVER THE INPUT: true; the input reads as it did. -/
def fireContradictsSpec : ChangeSpec := { name := "fireContradicts", fn := fun _ => fun
  | [d1, d2, d3, d4] => { results := [.lit (.bool true)], args := [d1, d2, d3, d4] }
  | _ => none }
def fireContradictsRow : OpenClaim := { program := "ytndajeiecdmhnaa", sum := "a9e990bf0932ae50dc99afddcc3eedd9d1a122e030cb23534c12d020601a618a", func := "calx/calxlaw02.FireContradicts", spec := "fireContradicts", unfollowed := true, recurses := true, plainKeys := false, apart := false }
def FireContradictsSaid : Prop := fireContradictsRow.holds Try.pinned (OpenSpec.ofChange fireContradictsSpec)

/-- ITS FALSE NEIGHBOUR: 'it returns false'. Refute it at one input. -/
def fireContradictsWrong : ChangeSpec := { name := "fireContradicts", fn := fun _ => fun
  | [d1, d2, d3, d4] => { results := [.lit (.bool false)], args := [d1, d2, d3, d4] }
  | _ => none }
def FireContradictsWrongFalsely : Prop := fireContradictsRow.holds Try.pinned (OpenSpec.ofChange fireContradictsWrong)

/-- 'calxlaw02.FireChecks': WHATEVER THE INPUT: true; the input reads as it did. -/
def fireChecksSpec : ChangeSpec := { name := "fireChecks", fn := fun _ => fun
  | [d1, d2, d3, d4, d5, d6] => { results := [.lit (.bool true)], args := [d1, d2, d3, d4, d5, d6] }
  | _ => none }
def fireChecksRow : OpenClaim := { program := "ytndajeiecdmhnaa", sum := "a9e990bf0932ae50dc99afddcc3eedd9d1a122e030cb23534c12d020601a618a", func := "calx/calxlaw02.FireChecks", spec := "fireChecks", unfollowed := true, recurses := true, plainKeys := false, apart := false }
def FireChecksSaid : Prop := fireChecksRow.holds Try.pinned (OpenSpec.ofChange fireChecksSpec)

/-- ITS FALSE NEIGHBOUR: 'it returns false'. Refute it at one input. -/
def fireChecksWrong : ChangeSpec := { name := "fireChecks", fn := fun _ => fun
  | [d1, d2, d3, d4, d5, d6] => { results := [.lit (.bool false)], args := [d1, d2, d3, d4, d5, d6] }
  | _ => none }
def FireChecksWrongFalsely : Prop := fireChecksRow.holds Try.pinned (OpenSpec.ofChange fireChecksWrong)

/-- 'calxlaw02.FireMore': WHATEVER THE INPUT: true; the input reads as it did. -/
def fireMoreSpec : ChangeSpec := { name := "fireMore", fn := fun _ => fun
  | [d1, d2, d3, d4] => { results := [.lit (.bool true)], args := [d1, d2, d3, d4] }
  | _ => none }
def fireMoreRow : OpenClaim := { program := "ytndajeiecdmhnaa", sum := "a9e990bf0932ae50dc99afddcc3eedd9d1a122e030cb23534c12d020601a618a", func := "calx/calxlaw02.FireMore", spec := "fireMore", unfollowed := true, recurses := true, plainKeys := false, apart := false }
def FireMoreSaid : Prop := fireMoreRow.holds Try.pinned (OpenSpec.ofChange fireMoreSpec)

/-- ITS FALSE NEIGHBOUR: 'it returns false'. Refute it at one input. -/
def fireMoreWrong : ChangeSpec := { name := "fireMore", fn := fun _ => fun
  | [d1, d2, d3, d4] => { results := [.lit (.bool false)], args := [d1, d2, d3, d4] }
  | _ => none }
def FireMoreWrongFalsely : Prop := fireMoreRow.holds Try.pinned (OpenSpec.ofChange fireMoreWrong)

/-- 'calxlaw02.FireSinks': WHATEVER THE INPUT: true; the input reads as it did. -/
def fireSinksSpec : ChangeSpec := { name := "fireSinks", fn := fun _ => fun
  | [d1, d2, d3, d4, d5] => { results := [.lit (.bool true)], args := [d1, d2, d3, d4, d5] }
  | _ => none }
def fireSinksRow : OpenClaim := { program := "ytndajeiecdmhnaa", sum := "a9e990bf0932ae50dc99afddcc3eedd9d1a122e030cb23534c12d020601a618a", func := "calx/calxlaw02.FireSinks", spec := "fireSinks", unfollowed := true, recurses := true, plainKeys := false, apart := false }
def FireSinksSaid : Prop := fireSinksRow.holds Try.pinned (OpenSpec.ofChange fireSinksSpec)

/-- ITS FALSE NEIGHBOUR: 'it returns false'. Refute it at one input. -/
def fireSinksWrong : ChangeSpec := { name := "fireSinks", fn := fun _ => fun
  | [d1, d2, d3, d4, d5] => { results := [.lit (.bool false)], args := [d1, d2, d3, d4, d5] }
  | _ => none }
def FireSinksWrongFalsely : Prop := fireSinksRow.holds Try.pinned (OpenSpec.ofChange fireSinksWrong)

/-- 'calxlaw02.FireDecides': WHATEVER THE INPUT: true; the input reads as it did. -/
def fireDecidesSpec : ChangeSpec := { name := "fireDecides", fn := fun _ => fun
  | [d1, d2, d3, d4, d5] => { results := [.lit (.bool true)], args := [d1, d2, d3, d4, d5] }
  | _ => none }
def fireDecidesRow : OpenClaim := { program := "ytndajeiecdmhnaa", sum := "a9e990bf0932ae50dc99afddcc3eedd9d1a122e030cb23534c12d020601a618a", func := "calx/calxlaw02.FireDecides", spec := "fireDecides", unfollowed := true, recurses := true, plainKeys := false, apart := false }
def FireDecidesSaid : Prop := fireDecidesRow.holds Try.pinned (OpenSpec.ofChange fireDecidesSpec)

/-- ITS FALSE NEIGHBOUR: 'it returns false'. Refute it at one input. -/
def fireDecidesWrong : ChangeSpec := { name := "fireDecides", fn := fun _ => fun
  | [d1, d2, d3, d4, d5] => { results := [.lit (.bool false)], args := [d1, d2, d3, d4, d5] }
  | _ => none }
def FireDecidesWrongFalsely : Prop := fireDecidesRow.holds Try.pinned (OpenSpec.ofChange fireDecidesWrong)

/-- 'calxlaw02.FireBetween': WHATEVER THE INPUT: true; the input reads as it did. -/
def fireBetweenSpec : ChangeSpec := { name := "fireBetween", fn := fun _ => fun
  | [d1, d2, d3] => { results := [.lit (.bool true)], args := [d1, d2, d3] }
  | _ => none }
def fireBetweenRow : OpenClaim := { program := "ytndajeiecdmhnaa", sum := "a9e990bf0932ae50dc99afddcc3eedd9d1a122e030cb23534c12d020601a618a", func := "calx/calxlaw02.FireBetween", spec := "fireBetween", unfollowed := true, recurses := true, plainKeys := false, apart := false }
def FireBetweenSaid : Prop := fireBetweenRow.holds Try.pinned (OpenSpec.ofChange fireBetweenSpec)

/-- ITS FALSE NEIGHBOUR: 'it returns false'. Refute it at one input. -/
def fireBetweenWrong : ChangeSpec := { name := "fireBetween", fn := fun _ => fun
  | [d1, d2, d3] => { results := [.lit (.bool false)], args := [d1, d2, d3] }
  | _ => none }
def FireBetweenWrongFalsely : Prop := fireBetweenRow.holds Try.pinned (OpenSpec.ofChange fireBetweenWrong)

/- THE SECOND FORM. 'bulk': how many values and letters a reading holds, each counted each time it is reached (what is shared counts as often as it is met; a slice's spare places count too). A statement '..UptoSaid' is the law's where the arguments, and the package variables that the reading takes, are together of bulk at most 1048576: NARROWER than '..Said'. Prove '..Said' where nothing that the law and all that it calls make is longer than what came in: it says more and counts as full. Else prove '..UptoSaid'. A law counts once. -/
mutual
def uptoBulk {H : Type} : DataW H → Nat
  | .lit (.string bytes) => bytes.length + 1
  | .lit _ => 1
  | .nil => 1
  | .ptr d => uptoBulk d + 1
  | .slice elems spare => uptoBulkAll elems + uptoBulkAll spare + 1
  | .agg parts => uptoBulkAll parts + 1
  | .iface _ d => uptoBulk d + 1
  | .map entries => uptoBulkEntries entries + 1
  | .held _ => 1
def uptoBulkAll {H : Type} : List (DataW H) → Nat
  | [] => 0
  | d :: r => uptoBulk d + uptoBulkAll r
def uptoBulkEntries {H : Type} : List (Lit × DataW H) → Nat
  | [] => 0
  | x :: r => uptoBulkEntry x + uptoBulkEntries r
def uptoBulkEntry {H : Type} : Lit × DataW H → Nat
  | (.string bytes, d) => bytes.length + uptoBulk d + 1
  | (_, d) => uptoBulk d + 1
 end
def uptoSmall : (H : Type) → List (DataW H) → Bool := fun _ ds => decide (uptoBulkAll ds ≤ 1048576)
def OpenSpec.upto (s : _root_.Go.ChangeSpec) : _root_.Go.OpenSpec := { _root_.Go.OpenSpec.ofChange s with cond := some uptoSmall }

/-- 'calxlaw02.FireAnyOrder', WHERE WHAT IT READS IS OF BULK AT MOST 1048576: true; the input reads as it did. -/
def fireAnyOrderUptoRow : OpenClaim := { program := "ytndajeiecdmhnaa", sum := "a9e990bf0932ae50dc99afddcc3eedd9d1a122e030cb23534c12d020601a618a", func := "calx/calxlaw02.FireAnyOrder", spec := "fireAnyOrder", unfollowed := true, recurses := true, plainKeys := false, apart := false, narrowed := true }
def FireAnyOrderUptoSaid : Prop := fireAnyOrderUptoRow.holds Try.pinned (OpenSpec.upto fireAnyOrderSpec)

/-- 'calxlaw02.FirePaths', WHERE WHAT IT READS IS OF BULK AT MOST 1048576: true; the input reads as it did. -/
def firePathsUptoRow : OpenClaim := { program := "ytndajeiecdmhnaa", sum := "a9e990bf0932ae50dc99afddcc3eedd9d1a122e030cb23534c12d020601a618a", func := "calx/calxlaw02.FirePaths", spec := "firePaths", unfollowed := true, recurses := true, plainKeys := false, apart := false, narrowed := true }
def FirePathsUptoSaid : Prop := firePathsUptoRow.holds Try.pinned (OpenSpec.upto firePathsSpec)

/-- 'calxlaw02.FireContradicts', WHERE WHAT IT READS IS OF BULK AT MOST 1048576: true; the input reads as it did. -/
def fireContradictsUptoRow : OpenClaim := { program := "ytndajeiecdmhnaa", sum := "a9e990bf0932ae50dc99afddcc3eedd9d1a122e030cb23534c12d020601a618a", func := "calx/calxlaw02.FireContradicts", spec := "fireContradicts", unfollowed := true, recurses := true, plainKeys := false, apart := false, narrowed := true }
def FireContradictsUptoSaid : Prop := fireContradictsUptoRow.holds Try.pinned (OpenSpec.upto fireContradictsSpec)

/-- 'calxlaw02.FireChecks', WHERE WHAT IT READS IS OF BULK AT MOST 1048576: true; the input reads as it did. -/
def fireChecksUptoRow : OpenClaim := { program := "ytndajeiecdmhnaa", sum := "a9e990bf0932ae50dc99afddcc3eedd9d1a122e030cb23534c12d020601a618a", func := "calx/calxlaw02.FireChecks", spec := "fireChecks", unfollowed := true, recurses := true, plainKeys := false, apart := false, narrowed := true }
def FireChecksUptoSaid : Prop := fireChecksUptoRow.holds Try.pinned (OpenSpec.upto fireChecksSpec)

/-- 'calxlaw02.FireMore', WHERE WHAT IT READS IS OF BULK AT MOST 1048576: true; the input reads as it did. -/
def fireMoreUptoRow : OpenClaim := { program := "ytndajeiecdmhnaa", sum := "a9e990bf0932ae50dc99afddcc3eedd9d1a122e030cb23534c12d020601a618a", func := "calx/calxlaw02.FireMore", spec := "fireMore", unfollowed := true, recurses := true, plainKeys := false, apart := false, narrowed := true }
def FireMoreUptoSaid : Prop := fireMoreUptoRow.holds Try.pinned (OpenSpec.upto fireMoreSpec)

/-- 'calxlaw02.FireSinks', WHERE WHAT IT READS IS OF BULK AT MOST 1048576: true; the input reads as it did. -/
def fireSinksUptoRow : OpenClaim := { program := "ytndajeiecdmhnaa", sum := "a9e990bf0932ae50dc99afddcc3eedd9d1a122e030cb23534c12d020601a618a", func := "calx/calxlaw02.FireSinks", spec := "fireSinks", unfollowed := true, recurses := true, plainKeys := false, apart := false, narrowed := true }
def FireSinksUptoSaid : Prop := fireSinksUptoRow.holds Try.pinned (OpenSpec.upto fireSinksSpec)

/-- 'calxlaw02.FireDecides', WHERE WHAT IT READS IS OF BULK AT MOST 1048576: true; the input reads as it did. -/
def fireDecidesUptoRow : OpenClaim := { program := "ytndajeiecdmhnaa", sum := "a9e990bf0932ae50dc99afddcc3eedd9d1a122e030cb23534c12d020601a618a", func := "calx/calxlaw02.FireDecides", spec := "fireDecides", unfollowed := true, recurses := true, plainKeys := false, apart := false, narrowed := true }
def FireDecidesUptoSaid : Prop := fireDecidesUptoRow.holds Try.pinned (OpenSpec.upto fireDecidesSpec)

/-- 'calxlaw02.FireBetween', WHERE WHAT IT READS IS OF BULK AT MOST 1048576: true; the input reads as it did. -/
def fireBetweenUptoRow : OpenClaim := { program := "ytndajeiecdmhnaa", sum := "a9e990bf0932ae50dc99afddcc3eedd9d1a122e030cb23534c12d020601a618a", func := "calx/calxlaw02.FireBetween", spec := "fireBetween", unfollowed := true, recurses := true, plainKeys := false, apart := false, narrowed := true }
def FireBetweenUptoSaid : Prop := fireBetweenUptoRow.holds Try.pinned (OpenSpec.upto fireBetweenSpec)

end Rows
end Go.Proofs.Ytndajeiecdmhnaa
