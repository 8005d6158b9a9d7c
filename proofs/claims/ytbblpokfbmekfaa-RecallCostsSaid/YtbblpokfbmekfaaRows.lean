/-
  No cell of these rows narrows 'for every input' (looked for: loops, veiled, ifaces, maps, wideKeys, modest, calm, conditions, laid).
  DERIVED. THE GIVEN ROWS OF THIS SEAT. 7 by the template 'for every input the law returns true; each argument reads behind the call as it read before'; 0 by the template 'total and deterministic' (their statements: YtbblpokfbmekfaaTotals.lean).
  GIVEN WITH THE SEED: the statements are not yours to turn. If you find one false, say at which input.
  Laid BY PROGRAM, IN A SANDBOX (cutbox-rows.mjs): the forced cells as the released guide's own fill.sh prints them over the translation 3ec5a6f5ab4dc187… (all of the seat's roots in one cut). By AI agents, Wed Nov 11 2026. No macro, syntax, notation, axiom, sorry.
-/
import Derived.Test.YtbblpokfbmekfaaChecked
import GoSem.Claim
import GoSem.ClaimJoined
import GoSem.ClaimMapViews
import Derived.JoinedTies
import Derived.KernelRfl
namespace Go.Proofs.Ytbblpokfbmekfaa
/- THE CELL 'sum', in the pinned program and in every row, IS THE sha256 OF THE DUMP (.gsa) THAT YtbblpokfbmekfaaProg.lean LOADS. Nothing in Lean hashes anything: it is a label: what it is worth is what the hold of that sum in a sandbox is worth. -/
noncomputable def Try.pinned : Pinned := { name := "ytbblpokfbmekfaa", sum := "3ec5a6f5ab4dc187b060dc3ffc16f9f44107fe60a408ff5ec55e881a75348e38", checked := Try.checked }
namespace Rows
def none {H : Type} : Left H := { results := [], args := [] }

/-- 'calxlaw09.RecallChecks': WHATEVER THE INPUT: true; the input reads as it did. -/
def recallChecksSpec : ChangeSpec := { name := "recallChecks", fn := fun _ => fun
  | [d] => { results := [.lit (.bool true)], args := [d] }
  | _ => none }
def recallChecksRow : OpenClaim := { program := "ytbblpokfbmekfaa", sum := "3ec5a6f5ab4dc187b060dc3ffc16f9f44107fe60a408ff5ec55e881a75348e38", func := "calx/calxlaw09.RecallChecks", spec := "recallChecks", unfollowed := true, recurses := true, apart := false }
def RecallChecksSaid : Prop := recallChecksRow.holds Try.pinned (OpenSpec.ofChange recallChecksSpec)

/-- ITS FALSE NEIGHBOUR: 'it returns false'. Refute it at one input. -/
def recallChecksWrong : ChangeSpec := { name := "recallChecks", fn := fun _ => fun
  | [d] => { results := [.lit (.bool false)], args := [d] }
  | _ => none }
def RecallChecksWrongFalsely : Prop := recallChecksRow.holds Try.pinned (OpenSpec.ofChange recallChecksWrong)

/-- 'calxlaw09.RecallMore': WHATEVER THE INPUT: true; the input reads as it did. -/
def recallMoreSpec : ChangeSpec := { name := "recallMore", fn := fun _ => fun
  | [d1, d2, d3, d4] => { results := [.lit (.bool true)], args := [d1, d2, d3, d4] }
  | _ => none }
def recallMoreRow : OpenClaim := { program := "ytbblpokfbmekfaa", sum := "3ec5a6f5ab4dc187b060dc3ffc16f9f44107fe60a408ff5ec55e881a75348e38", func := "calx/calxlaw09.RecallMore", spec := "recallMore", unfollowed := true, recurses := true, apart := false }
def RecallMoreSaid : Prop := recallMoreRow.holds Try.pinned (OpenSpec.ofChange recallMoreSpec)

/-- ITS FALSE NEIGHBOUR: 'it returns false'. Refute it at one input. -/
def recallMoreWrong : ChangeSpec := { name := "recallMore", fn := fun _ => fun
  | [d1, d2, d3, d4] => { results := [.lit (.bool false)], args := [d1, d2, d3, d4] }
  | _ => none }
def RecallMoreWrongFalsely : Prop := recallMoreRow.holds Try.pinned (OpenSpec.ofChange recallMoreWrong)

/-- 'calxlaw09.RecallAnyOrder': WHATEVER THE INPUT: true; the input reads as it did. -/
def recallAnyOrderSpec : ChangeSpec := { name := "recallAnyOrder", fn := fun _ => fun
  | [d1, d2, d3, d4] => { results := [.lit (.bool true)], args := [d1, d2, d3, d4] }
  | _ => none }
def recallAnyOrderRow : OpenClaim := { program := "ytbblpokfbmekfaa", sum := "3ec5a6f5ab4dc187b060dc3ffc16f9f44107fe60a408ff5ec55e881a75348e38", func := "calx/calxlaw09.RecallAnyOrder", spec := "recallAnyOrder", unfollowed := true, recurses := true, apart := false }
def RecallAnyOrderSaid : Prop := recallAnyOrderRow.holds Try.pinned (OpenSpec.ofChange recallAnyOrderSpec)

/-- ITS FALSE NEIGHBOUR: 'it returns false'. Refute it at one input. -/
def recallAnyOrderWrong : ChangeSpec := { name := "recallAnyOrder", fn := fun _ => fun
  | [d1, d2, d3, d4] => { results := [.lit (.bool false)], args := [d1, d2, d3, d4] }
  | _ => none }
def RecallAnyOrderWrongFalsely : Prop := recallAnyOrderRow.holds Try.pinned (OpenSpec.ofChange recallAnyOrderWrong)

/-- 'calxlaw09.RecallTold': WHATEVER THE INPUT: true; the input reads as it did. -/
def recallToldSpec : ChangeSpec := { name := "recallTold", fn := fun _ => fun
  | [d1, d2, d3, d4] => { results := [.lit (.bool true)], args := [d1, d2, d3, d4] }
  | _ => none }
def recallToldRow : OpenClaim := { program := "ytbblpokfbmekfaa", sum := "3ec5a6f5ab4dc187b060dc3ffc16f9f44107fe60a408ff5ec55e881a75348e38", func := "calx/calxlaw09.RecallTold", spec := "recallTold", unfollowed := true, recurses := true, apart := false }
def RecallToldSaid : Prop := recallToldRow.holds Try.pinned (OpenSpec.ofChange recallToldSpec)

/-- ITS FALSE NEIGHBOUR: 'it returns false'. Refute it at one input. -/
def recallToldWrong : ChangeSpec := { name := "recallTold", fn := fun _ => fun
  | [d1, d2, d3, d4] => { results := [.lit (.bool false)], args := [d1, d2, d3, d4] }
  | _ => none }
def RecallToldWrongFalsely : Prop := recallToldRow.holds Try.pinned (OpenSpec.ofChange recallToldWrong)

/-- 'calxlaw09.RecallCosts': WHATEVER THE INPUT: true; the input reads as it did. -/
def recallCostsSpec : ChangeSpec := { name := "recallCosts", fn := fun _ => fun
  | [d1, d2] => { results := [.lit (.bool true)], args := [d1, d2] }
  | _ => none }
def recallCostsRow : OpenClaim := { program := "ytbblpokfbmekfaa", sum := "3ec5a6f5ab4dc187b060dc3ffc16f9f44107fe60a408ff5ec55e881a75348e38", func := "calx/calxlaw09.RecallCosts", spec := "recallCosts", unfollowed := true, recurses := true, apart := false }
def RecallCostsSaid : Prop := recallCostsRow.holds Try.pinned (OpenSpec.ofChange recallCostsSpec)

/-- ITS FALSE NEIGHBOUR: 'it returns false'. Refute it at one input. -/
def recallCostsWrong : ChangeSpec := { name := "recallCosts", fn := fun _ => fun
  | [d1, d2] => { results := [.lit (.bool false)], args := [d1, d2] }
  | _ => none }
def RecallCostsWrongFalsely : Prop := recallCostsRow.holds Try.pinned (OpenSpec.ofChange recallCostsWrong)

/-- 'calxlaw09.RecallDenied': WHATEVER THE INPUT: true; the input reads as it did. -/
def recallDeniedSpec : ChangeSpec := { name := "recallDenied", fn := fun _ => fun
  | [d1, d2, d3, d4] => { results := [.lit (.bool true)], args := [d1, d2, d3, d4] }
  | _ => none }
def recallDeniedRow : OpenClaim := { program := "ytbblpokfbmekfaa", sum := "3ec5a6f5ab4dc187b060dc3ffc16f9f44107fe60a408ff5ec55e881a75348e38", func := "calx/calxlaw09.RecallDenied", spec := "recallDenied", unfollowed := true, recurses := true, apart := false }
def RecallDeniedSaid : Prop := recallDeniedRow.holds Try.pinned (OpenSpec.ofChange recallDeniedSpec)

/-- ITS FALSE NEIGHBOUR: 'it returns false'. Refute it at one input. -/
def recallDeniedWrong : ChangeSpec := { name := "recallDenied", fn := fun _ => fun
  | [d1, d2, d3, d4] => { results := [.lit (.bool false)], args := [d1, d2, d3, d4] }
  | _ => none }
def RecallDeniedWrongFalsely : Prop := recallDeniedRow.holds Try.pinned (OpenSpec.ofChange recallDeniedWrong)

/-- 'calxlaw09.RecallSmallest': WHATEVER THE INPUT: true; the input reads as it did. -/
def recallSmallestSpec : ChangeSpec := { name := "recallSmallest", fn := fun _ => fun
  | [d1, d2, d3] => { results := [.lit (.bool true)], args := [d1, d2, d3] }
  | _ => none }
def recallSmallestRow : OpenClaim := { program := "ytbblpokfbmekfaa", sum := "3ec5a6f5ab4dc187b060dc3ffc16f9f44107fe60a408ff5ec55e881a75348e38", func := "calx/calxlaw09.RecallSmallest", spec := "recallSmallest", unfollowed := true, recurses := true, apart := false }
def RecallSmallestSaid : Prop := recallSmallestRow.holds Try.pinned (OpenSpec.ofChange recallSmallestSpec)

/-- ITS FALSE NEIGHBOUR: 'it returns false'. Refute it at one input. -/
def recallSmallestWrong : ChangeSpec := { name := "recallSmallest", fn := fun _ => fun
  | [d1, d2, d3] => { results := [.lit (.bool false)], args := [d1, d2, d3] }
  | _ => none }
def RecallSmallestWrongFalsely : Prop := recallSmallestRow.holds Try.pinned (OpenSpec.ofChange recallSmallestWrong)

/- THE SECOND FORM. 'bulk': how many values and letters a reading holds, each counted each time it is reached (what is shared counts as often as it is met; a slice's spare places count too). A statement '..UptoSaid' is the law's where the arguments, and the package variables that the reading takes, are together of bulk at most 1048576: NARROWER than '..Said'. Prove '..Said' where nothing that the law and all that it calls make is longer than what came in: it says more and counts as full. Else prove '..UptoSaid'. A law counts once. -/
mutual
def uptoBulk {H : Type} : DataW H → Nat
  | .lit (.string bytes) => bytes.length + 1
  | .lit _ => 1
  | .nil => 1
  | .ptr d => uptoBulk d + 1
  | .slice elems spare => uptoBulkAll elems + uptoBulkAll spare + 1
  | .agg parts => uptoBulkAll parts + 1
  | .iface _ d => uptoBulk d + 1
  | .map entries => uptoBulkEntries entries + 1
  | .held _ => 1
def uptoBulkAll {H : Type} : List (DataW H) → Nat
  | [] => 0
  | d :: r => uptoBulk d + uptoBulkAll r
def uptoBulkEntries {H : Type} : List (Lit × DataW H) → Nat
  | [] => 0
  | x :: r => uptoBulkEntry x + uptoBulkEntries r
def uptoBulkEntry {H : Type} : Lit × DataW H → Nat
  | (.string bytes, d) => bytes.length + uptoBulk d + 1
  | (_, d) => uptoBulk d + 1
 end
def uptoSmall : (H : Type) → List (DataW H) → Bool := fun _ ds => decide (uptoBulkAll ds ≤ 1048576)
def OpenSpec.upto (s : _root_.Go.ChangeSpec) : _root_.Go.OpenSpec := { _root_.Go.OpenSpec.ofChange s with cond := some uptoSmall }

/-- 'calxlaw09.RecallChecks', WHERE WHAT IT READS IS OF BULK AT MOST 1048576: true; the input reads as it did. -/
def recallChecksUptoRow : OpenClaim := { program := "ytbblpokfbmekfaa", sum := "3ec5a6f5ab4dc187b060dc3ffc16f9f44107fe60a408ff5ec55e881a75348e38", func := "calx/calxlaw09.RecallChecks", spec := "recallChecks", unfollowed := true, recurses := true, apart := false, narrowed := true }
def RecallChecksUptoSaid : Prop := recallChecksUptoRow.holds Try.pinned (OpenSpec.upto recallChecksSpec)

/-- 'calxlaw09.RecallMore', WHERE WHAT IT READS IS OF BULK AT MOST 1048576: true; the input reads as it did. -/
def recallMoreUptoRow : OpenClaim := { program := "ytbblpokfbmekfaa", sum := "3ec5a6f5ab4dc187b060dc3ffc16f9f44107fe60a408ff5ec55e881a75348e38", func := "calx/calxlaw09.RecallMore", spec := "recallMore", unfollowed := true, recurses := true, apart := false, narrowed := true }
def RecallMoreUptoSaid : Prop := recallMoreUptoRow.holds Try.pinned (OpenSpec.upto recallMoreSpec)

/-- 'calxlaw09.RecallAnyOrder', WHERE WHAT IT READS IS OF BULK AT MOST 1048576: true; the input reads as it did. -/
def recallAnyOrderUptoRow : OpenClaim := { program := "ytbblpokfbmekfaa", sum := "3ec5a6f5ab4dc187b060dc3ffc16f9f44107fe60a408ff5ec55e881a75348e38", func := "calx/calxlaw09.RecallAnyOrder", spec := "recallAnyOrder", unfollowed := true, recurses := true, apart := false, narrowed := true }
def RecallAnyOrderUptoSaid : Prop := recallAnyOrderUptoRow.holds Try.pinned (OpenSpec.upto recallAnyOrderSpec)

/-- 'calxlaw09.RecallTold', WHERE WHAT IT READS IS OF BULK AT MOST 1048576: true; the input reads as it did. -/
def recallToldUptoRow : OpenClaim := { program := "ytbblpokfbmekfaa", sum := "3ec5a6f5ab4dc187b060dc3ffc16f9f44107fe60a408ff5ec55e881a75348e38", func := "calx/calxlaw09.RecallTold", spec := "recallTold", unfollowed := true, recurses := true, apart := false, narrowed := true }
def RecallToldUptoSaid : Prop := recallToldUptoRow.holds Try.pinned (OpenSpec.upto recallToldSpec)

/-- 'calxlaw09.RecallCosts', WHERE WHAT IT READS IS OF BULK AT MOST 1048576: true; the input reads as it did. -/
def recallCostsUptoRow : OpenClaim := { program := "ytbblpokfbmekfaa", sum := "3ec5a6f5ab4dc187b060dc3ffc16f9f44107fe60a408ff5ec55e881a75348e38", func := "calx/calxlaw09.RecallCosts", spec := "recallCosts", unfollowed := true, recurses := true, apart := false, narrowed := true }
def RecallCostsUptoSaid : Prop := recallCostsUptoRow.holds Try.pinned (OpenSpec.upto recallCostsSpec)

/-- 'calxlaw09.RecallDenied', WHERE WHAT IT READS IS OF BULK AT MOST 1048576: true; the input reads as it did. -/
def recallDeniedUptoRow : OpenClaim := { program := "ytbblpokfbmekfaa", sum := "3ec5a6f5ab4dc187b060dc3ffc16f9f44107fe60a408ff5ec55e881a75348e38", func := "calx/calxlaw09.RecallDenied", spec := "recallDenied", unfollowed := true, recurses := true, apart := false, narrowed := true }
def RecallDeniedUptoSaid : Prop := recallDeniedUptoRow.holds Try.pinned (OpenSpec.upto recallDeniedSpec)

/-- 'calxlaw09.RecallSmallest', WHERE WHAT IT READS IS OF BULK AT MOST 1048576: true; the input reads as it did. -/
def recallSmallestUptoRow : OpenClaim := { program := "ytbblpokfbmekfaa", sum := "3ec5a6f5ab4dc187b060dc3ffc16f9f44107fe60a408ff5ec55e881a75348e38", func := "calx/calxlaw09.RecallSmallest", spec := "recallSmallest", unfollowed := true, recurses := true, apart := false, narrowed := true }
def RecallSmallestUptoSaid : Prop := recallSmallestUptoRow.holds Try.pinned (OpenSpec.upto recallSmallestSpec)

end Rows
end Go.Proofs.Ytbblpokfbmekfaa
