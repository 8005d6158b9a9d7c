/-
  No cell of these rows narrows 'for every input' (looked for: loops, veiled, ifaces, maps, wideKeys, modest, calm, conditions, laid).
  DERIVED. THE GIVEN ROWS OF THIS SEAT. 3 by the template 'for every input the law returns true; each argument reads behind the call as it read before'; 0 by the template 'total and deterministic' (their statements: YtndajeiecdmhnaaGreatTotals.lean).
  GIVEN WITH THE SEED: the statements are not yours to turn. If you find one false, say at which input.
  Laid BY PROGRAM, IN A SANDBOX (cutbox-rows.mjs): the forced cells as the released guide's own fill.sh prints them over the translation 6f3853348e7b372e… (all of the seat's roots in one cut). By AI agents, Wed Nov 11 2026. No macro, syntax, notation, axiom, sorry.
-/
import Derived.Test.YtndajeiecdmhnaaGreatChecked
import GoSem.Claim
import GoSem.ClaimJoined
import GoSem.ClaimMapViews
import Derived.JoinedTies
import Derived.KernelRfl
namespace Go.Proofs.YtndajeiecdmhnaaGreat
/- THE CELL 'sum', in the pinned program and in every row, IS THE sha256 OF THE DUMP (.gsa) THAT YtndajeiecdmhnaaGreatProg.lean LOADS. Nothing in Lean hashes anything: it is a label: what it is worth is what the hold of that sum in a sandbox is worth. -/
noncomputable def Tryz.pinned : Pinned := { name := "ytndajeiecdmhnaagreat", sum := "6f3853348e7b372e0e9dadc387f9c99ee57b3ee652481ec4089cae98e825e22c", checked := Tryz.checked }
namespace Rows
def none {H : Type} : Left H := { results := [], args := [] }

/-- 'calxlaw02.FireEnds': WHATEVER THE INPUT: true; the input reads as it did. -/
def fireEndsSpec : ChangeSpec := { name := "fireEnds", fn := fun _ => fun
  | [d1, d2, d3] => { results := [.lit (.bool true)], args := [d1, d2, d3] }
  | _ => none }
def fireEndsRow : OpenClaim := { program := "ytndajeiecdmhnaagreat", sum := "6f3853348e7b372e0e9dadc387f9c99ee57b3ee652481ec4089cae98e825e22c", func := "calx/calxlaw02.FireEnds", spec := "fireEnds", unfollowed := true, recurses := true, plainKeys := false, apart := false }
def FireEndsSaid : Prop := fireEndsRow.holds Tryz.pinned (OpenSpec.ofChange fireEndsSpec)

/-- ITS FALSE NEIGHBOUR: 'it returns false'. Refute it at one input. -/
def fireEndsWrong : ChangeSpec := { name := "fireEnds", fn := fun _ => fun
  | [d1, d2, d3] => { results := [.lit (.bool false)], args := [d1, d2, d3] }
  | _ => none }
def FireEndsWrongFalsely : Prop := fireEndsRow.holds Tryz.pinned (OpenSpec.ofChange fireEndsWrong)

/-- 'calxlaw02.FireLooks': WHATEVER THE INPUT: true; the input reads as it did. -/
def fireLooksSpec : ChangeSpec := { name := "fireLooks", fn := fun _ => fun
  | [d1, d2, d3, d4, d5, d6] => { results := [.lit (.bool true)], args := [d1, d2, d3, d4, d5, d6] }
  | _ => none }
def fireLooksRow : OpenClaim := { program := "ytndajeiecdmhnaagreat", sum := "6f3853348e7b372e0e9dadc387f9c99ee57b3ee652481ec4089cae98e825e22c", func := "calx/calxlaw02.FireLooks", spec := "fireLooks", unfollowed := true, recurses := true, plainKeys := false, apart := false }
def FireLooksSaid : Prop := fireLooksRow.holds Tryz.pinned (OpenSpec.ofChange fireLooksSpec)

/-- ITS FALSE NEIGHBOUR: 'it returns false'. Refute it at one input. -/
def fireLooksWrong : ChangeSpec := { name := "fireLooks", fn := fun _ => fun
  | [d1, d2, d3, d4, d5, d6] => { results := [.lit (.bool false)], args := [d1, d2, d3, d4, d5, d6] }
  | _ => none }
def FireLooksWrongFalsely : Prop := fireLooksRow.holds Tryz.pinned (OpenSpec.ofChange fireLooksWrong)

/-- 'calxlaw02.FireFields': WHATEVER THE INPUT: true; the input reads as it did. -/
def fireFieldsSpec : ChangeSpec := { name := "fireFields", fn := fun _ => fun
  | [d1, d2, d3] => { results := [.lit (.bool true)], args := [d1, d2, d3] }
  | _ => none }
def fireFieldsRow : OpenClaim := { program := "ytndajeiecdmhnaagreat", sum := "6f3853348e7b372e0e9dadc387f9c99ee57b3ee652481ec4089cae98e825e22c", func := "calx/calxlaw02.FireFields", spec := "fireFields", unfollowed := true, recurses := true, plainKeys := false, apart := false }
def FireFieldsSaid : Prop := fireFieldsRow.holds Tryz.pinned (OpenSpec.ofChange fireFieldsSpec)

/-- ITS FALSE NEIGHBOUR: 'it returns false'. Refute it at one input. -/
def fireFieldsWrong : ChangeSpec := { name := "fireFields", fn := fun _ => fun
  | [d1, d2, d3] => { results := [.lit (.bool false)], args := [d1, d2, d3] }
  | _ => none }
def FireFieldsWrongFalsely : Prop := fireFieldsRow.holds Tryz.pinned (OpenSpec.ofChange fireFieldsWrong)

/- THE SECOND FORM. 'bulk': how many values and letters a reading holds, each counted each time it is reached (what is shared counts as often as it is met; a slice's spare places count too). A statement '..UptoSaid' is the law's where the arguments, and the package variables that the reading takes, are together of bulk at most 1048576: NARROWER than '..Said'. Prove '..Said' where nothing that the law and all that it calls make is longer than what came in: it says more and counts as full. Else prove '..UptoSaid'. A law counts once. -/
mutual
def uptoBulk {H : Type} : DataW H → Nat
  | .lit (.string bytes) => bytes.length + 1
  | .lit _ => 1
  | .nil => 1
  | .ptr d => uptoBulk d + 1
  | .slice elems spare => uptoBulkAll elems + uptoBulkAll spare + 1
  | .agg parts => uptoBulkAll parts + 1
  | .iface _ d => uptoBulk d + 1
  | .map entries => uptoBulkEntries entries + 1
  | .held _ => 1
def uptoBulkAll {H : Type} : List (DataW H) → Nat
  | [] => 0
  | d :: r => uptoBulk d + uptoBulkAll r
def uptoBulkEntries {H : Type} : List (Lit × DataW H) → Nat
  | [] => 0
  | x :: r => uptoBulkEntry x + uptoBulkEntries r
def uptoBulkEntry {H : Type} : Lit × DataW H → Nat
  | (.string bytes, d) => bytes.length + uptoBulk d + 1
  | (_, d) => uptoBulk d + 1
 end
def uptoSmall : (H : Type) → List (DataW H) → Bool := fun _ ds => decide (uptoBulkAll ds ≤ 1048576)
def OpenSpec.upto (s : _root_.Go.ChangeSpec) : _root_.Go.OpenSpec := { _root_.Go.OpenSpec.ofChange s with cond := some uptoSmall }

/-- 'calxlaw02.FireEnds', WHERE WHAT IT READS IS OF BULK AT MOST 1048576: true; the input reads as it did. -/
def fireEndsUptoRow : OpenClaim := { program := "ytndajeiecdmhnaagreat", sum := "6f3853348e7b372e0e9dadc387f9c99ee57b3ee652481ec4089cae98e825e22c", func := "calx/calxlaw02.FireEnds", spec := "fireEnds", unfollowed := true, recurses := true, plainKeys := false, apart := false, narrowed := true }
def FireEndsUptoSaid : Prop := fireEndsUptoRow.holds Tryz.pinned (OpenSpec.upto fireEndsSpec)

/-- 'calxlaw02.FireLooks', WHERE WHAT IT READS IS OF BULK AT MOST 1048576: true; the input reads as it did. -/
def fireLooksUptoRow : OpenClaim := { program := "ytndajeiecdmhnaagreat", sum := "6f3853348e7b372e0e9dadc387f9c99ee57b3ee652481ec4089cae98e825e22c", func := "calx/calxlaw02.FireLooks", spec := "fireLooks", unfollowed := true, recurses := true, plainKeys := false, apart := false, narrowed := true }
def FireLooksUptoSaid : Prop := fireLooksUptoRow.holds Tryz.pinned (OpenSpec.upto fireLooksSpec)

/-- 'calxlaw02.FireFields', WHERE WHAT IT READS IS OF BULK AT MOST 1048576: true; the input reads as it did. -/
def fireFieldsUptoRow : OpenClaim := { program := "ytndajeiecdmhnaagreat", sum := "6f3853348e7b372e0e9dadc387f9c99ee57b3ee652481ec4089cae98e825e22c", func := "calx/calxlaw02.FireFields", spec := "fireFields", unfollowed := true, recurses := true, plainKeys := false, apart := false, narrowed := true }
def FireFieldsUptoSaid : Prop := fireFieldsUptoRow.holds Tryz.pinned (OpenSpec.upto fireFieldsSpec)

end Rows
end Go.Proofs.YtndajeiecdmhnaaGreat
