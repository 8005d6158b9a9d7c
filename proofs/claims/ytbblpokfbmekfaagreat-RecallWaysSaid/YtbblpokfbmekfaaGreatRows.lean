/-
  No cell of these rows narrows 'for every input' (looked for: loops, veiled, ifaces, maps, wideKeys, modest, calm, conditions, laid).
  DERIVED. THE GIVEN ROWS OF THIS SEAT. 10 by the template 'for every input the law returns true; each argument reads behind the call as it read before'; 0 by the template 'total and deterministic' (their statements: YtbblpokfbmekfaaGreatTotals.lean).
  GIVEN WITH THE SEED: the statements are not yours to turn. If you find one false, say at which input.
  Laid BY PROGRAM, IN A SANDBOX (cutbox-rows.mjs): the forced cells as the released guide's own fill.sh prints them over the translation b72d029165463698… (all of the seat's roots in one cut). By AI agents, Wed Nov 11 2026. No macro, syntax, notation, axiom, sorry.
-/
import Derived.Test.YtbblpokfbmekfaaGreatChecked
import GoSem.Claim
import GoSem.ClaimJoined
import GoSem.ClaimMapViews
import Derived.JoinedTies
import Derived.KernelRfl
namespace Go.Proofs.YtbblpokfbmekfaaGreat
/- THE CELL 'sum', in the pinned program and in every row, IS THE sha256 OF THE DUMP (.gsa) THAT YtbblpokfbmekfaaGreatProg.lean LOADS. Nothing in Lean hashes anything: it is a label: what it is worth is what the hold of that sum in a sandbox is worth. -/
noncomputable def Tryz.pinned : Pinned := { name := "ytbblpokfbmekfaagreat", sum := "b72d029165463698b41a317ce3e459d9028811800729b5656d763ede00844dc4", checked := Tryz.checked }
namespace Rows
def none {H : Type} : Left H := { results := [], args := [] }

/-- 'calxlaw09.RecallOrigins': WHATEVER THE INPUT: true; the input reads as it did. -/
def recallOriginsSpec : ChangeSpec := { name := "recallOrigins", fn := fun _ => fun
  | [d1, d2, d3, d4] => { results := [.lit (.bool true)], args := [d1, d2, d3, d4] }
  | _ => none }
def recallOriginsRow : OpenClaim := { program := "ytbblpokfbmekfaagreat", sum := "b72d029165463698b41a317ce3e459d9028811800729b5656d763ede00844dc4", func := "calx/calxlaw09.RecallOrigins", spec := "recallOrigins", unfollowed := true, recurses := true, apart := false }
def RecallOriginsSaid : Prop := recallOriginsRow.holds Tryz.pinned (OpenSpec.ofChange recallOriginsSpec)

/-- ITS FALSE NEIGHBOUR: 'it returns false'. Refute it at one input. -/
def recallOriginsWrong : ChangeSpec := { name := "recallOrigins", fn := fun _ => fun
  | [d1, d2, d3, d4] => { results := [.lit (.bool false)], args := [d1, d2, d3, d4] }
  | _ => none }
def RecallOriginsWrongFalsely : Prop := recallOriginsRow.holds Tryz.pinned (OpenSpec.ofChange recallOriginsWrong)

/-- 'calxlaw09.RecallHangs': WHATEVER THE INPUT: true; the input reads as it did. -/
def recallHangsSpec : ChangeSpec := { name := "recallHangs", fn := fun _ => fun
  | [d1, d2, d3] => { results := [.lit (.bool true)], args := [d1, d2, d3] }
  | _ => none }
def recallHangsRow : OpenClaim := { program := "ytbblpokfbmekfaagreat", sum := "b72d029165463698b41a317ce3e459d9028811800729b5656d763ede00844dc4", func := "calx/calxlaw09.RecallHangs", spec := "recallHangs", unfollowed := true, recurses := true, apart := false }
def RecallHangsSaid : Prop := recallHangsRow.holds Tryz.pinned (OpenSpec.ofChange recallHangsSpec)

/-- ITS FALSE NEIGHBOUR: 'it returns false'. Refute it at one input. -/
def recallHangsWrong : ChangeSpec := { name := "recallHangs", fn := fun _ => fun
  | [d1, d2, d3] => { results := [.lit (.bool false)], args := [d1, d2, d3] }
  | _ => none }
def RecallHangsWrongFalsely : Prop := recallHangsRow.holds Tryz.pinned (OpenSpec.ofChange recallHangsWrong)

/-- 'calxlaw09.RecallAsks': WHATEVER THE INPUT: true; the input reads as it did. -/
def recallAsksSpec : ChangeSpec := { name := "recallAsks", fn := fun _ => fun
  | [d1, d2] => { results := [.lit (.bool true)], args := [d1, d2] }
  | _ => none }
def recallAsksRow : OpenClaim := { program := "ytbblpokfbmekfaagreat", sum := "b72d029165463698b41a317ce3e459d9028811800729b5656d763ede00844dc4", func := "calx/calxlaw09.RecallAsks", spec := "recallAsks", unfollowed := true, recurses := true, apart := false }
def RecallAsksSaid : Prop := recallAsksRow.holds Tryz.pinned (OpenSpec.ofChange recallAsksSpec)

/-- ITS FALSE NEIGHBOUR: 'it returns false'. Refute it at one input. -/
def recallAsksWrong : ChangeSpec := { name := "recallAsks", fn := fun _ => fun
  | [d1, d2] => { results := [.lit (.bool false)], args := [d1, d2] }
  | _ => none }
def RecallAsksWrongFalsely : Prop := recallAsksRow.holds Tryz.pinned (OpenSpec.ofChange recallAsksWrong)

/-- 'calxlaw09.RecallCuts': WHATEVER THE INPUT: true; the input reads as it did. -/
def recallCutsSpec : ChangeSpec := { name := "recallCuts", fn := fun _ => fun
  | [d1, d2, d3, d4] => { results := [.lit (.bool true)], args := [d1, d2, d3, d4] }
  | _ => none }
def recallCutsRow : OpenClaim := { program := "ytbblpokfbmekfaagreat", sum := "b72d029165463698b41a317ce3e459d9028811800729b5656d763ede00844dc4", func := "calx/calxlaw09.RecallCuts", spec := "recallCuts", unfollowed := true, recurses := true, apart := false }
def RecallCutsSaid : Prop := recallCutsRow.holds Tryz.pinned (OpenSpec.ofChange recallCutsSpec)

/-- ITS FALSE NEIGHBOUR: 'it returns false'. Refute it at one input. -/
def recallCutsWrong : ChangeSpec := { name := "recallCuts", fn := fun _ => fun
  | [d1, d2, d3, d4] => { results := [.lit (.bool false)], args := [d1, d2, d3, d4] }
  | _ => none }
def RecallCutsWrongFalsely : Prop := recallCutsRow.holds Tryz.pinned (OpenSpec.ofChange recallCutsWrong)

/-- 'calxlaw09.RecallReaches': WHATEVER THE INPUT: true; the input reads as it did. -/
def recallReachesSpec : ChangeSpec := { name := "recallReaches", fn := fun _ => fun
  | [d1, d2, d3] => { results := [.lit (.bool true)], args := [d1, d2, d3] }
  | _ => none }
def recallReachesRow : OpenClaim := { program := "ytbblpokfbmekfaagreat", sum := "b72d029165463698b41a317ce3e459d9028811800729b5656d763ede00844dc4", func := "calx/calxlaw09.RecallReaches", spec := "recallReaches", unfollowed := true, recurses := true, apart := false }
def RecallReachesSaid : Prop := recallReachesRow.holds Tryz.pinned (OpenSpec.ofChange recallReachesSpec)

/-- ITS FALSE NEIGHBOUR: 'it returns false'. Refute it at one input. -/
def recallReachesWrong : ChangeSpec := { name := "recallReaches", fn := fun _ => fun
  | [d1, d2, d3] => { results := [.lit (.bool false)], args := [d1, d2, d3] }
  | _ => none }
def RecallReachesWrongFalsely : Prop := recallReachesRow.holds Tryz.pinned (OpenSpec.ofChange recallReachesWrong)

/-- 'calxlaw09.RecallClears': WHATEVER THE INPUT: true; the input reads as it did. -/
def recallClearsSpec : ChangeSpec := { name := "recallClears", fn := fun _ => fun
  | [d1, d2, d3, d4] => { results := [.lit (.bool true)], args := [d1, d2, d3, d4] }
  | _ => none }
def recallClearsRow : OpenClaim := { program := "ytbblpokfbmekfaagreat", sum := "b72d029165463698b41a317ce3e459d9028811800729b5656d763ede00844dc4", func := "calx/calxlaw09.RecallClears", spec := "recallClears", unfollowed := true, recurses := true, apart := false }
def RecallClearsSaid : Prop := recallClearsRow.holds Tryz.pinned (OpenSpec.ofChange recallClearsSpec)

/-- ITS FALSE NEIGHBOUR: 'it returns false'. Refute it at one input. -/
def recallClearsWrong : ChangeSpec := { name := "recallClears", fn := fun _ => fun
  | [d1, d2, d3, d4] => { results := [.lit (.bool false)], args := [d1, d2, d3, d4] }
  | _ => none }
def RecallClearsWrongFalsely : Prop := recallClearsRow.holds Tryz.pinned (OpenSpec.ofChange recallClearsWrong)

/-- 'calxlaw09.RecallWays': WHATEVER THE INPUT: true; the input reads as it did. -/
def recallWaysSpec : ChangeSpec := { name := "recallWays", fn := fun _ => fun
  | [d1, d2, d3, d4, d5, d6, d7] => { results := [.lit (.bool true)], args := [d1, d2, d3, d4, d5, d6, d7] }
  | _ => none }
def recallWaysRow : OpenClaim := { program := "ytbblpokfbmekfaagreat", sum := "b72d029165463698b41a317ce3e459d9028811800729b5656d763ede00844dc4", func := "calx/calxlaw09.RecallWays", spec := "recallWays", unfollowed := true, recurses := true, apart := false }
def RecallWaysSaid : Prop := recallWaysRow.holds Tryz.pinned (OpenSpec.ofChange recallWaysSpec)

/-- ITS FALSE NEIGHBOUR: 'it returns false'. Refute it at one input. -/
def recallWaysWrong : ChangeSpec := { name := "recallWays", fn := fun _ => fun
  | [d1, d2, d3, d4, d5, d6, d7] => { results := [.lit (.bool false)], args := [d1, d2, d3, d4, d5, d6, d7] }
  | _ => none }
def RecallWaysWrongFalsely : Prop := recallWaysRow.holds Tryz.pinned (OpenSpec.ofChange recallWaysWrong)

/-- 'calxlaw09.RecallHanging': WHATEVER THE INPUT: true; the input reads as it did. -/
def recallHangingSpec : ChangeSpec := { name := "recallHanging", fn := fun _ => fun
  | [d1, d2, d3, d4] => { results := [.lit (.bool true)], args := [d1, d2, d3, d4] }
  | _ => none }
def recallHangingRow : OpenClaim := { program := "ytbblpokfbmekfaagreat", sum := "b72d029165463698b41a317ce3e459d9028811800729b5656d763ede00844dc4", func := "calx/calxlaw09.RecallHanging", spec := "recallHanging", unfollowed := true, recurses := true, apart := false }
def RecallHangingSaid : Prop := recallHangingRow.holds Tryz.pinned (OpenSpec.ofChange recallHangingSpec)

/-- ITS FALSE NEIGHBOUR: 'it returns false'. Refute it at one input. -/
def recallHangingWrong : ChangeSpec := { name := "recallHanging", fn := fun _ => fun
  | [d1, d2, d3, d4] => { results := [.lit (.bool false)], args := [d1, d2, d3, d4] }
  | _ => none }
def RecallHangingWrongFalsely : Prop := recallHangingRow.holds Tryz.pinned (OpenSpec.ofChange recallHangingWrong)

/-- 'calxlaw09.RecallProofs': WHATEVER THE INPUT: true; the input reads as it did. -/
def recallProofsSpec : ChangeSpec := { name := "recallProofs", fn := fun _ => fun
  | [d1, d2, d3, d4, d5] => { results := [.lit (.bool true)], args := [d1, d2, d3, d4, d5] }
  | _ => none }
def recallProofsRow : OpenClaim := { program := "ytbblpokfbmekfaagreat", sum := "b72d029165463698b41a317ce3e459d9028811800729b5656d763ede00844dc4", func := "calx/calxlaw09.RecallProofs", spec := "recallProofs", unfollowed := true, recurses := true, apart := false }
def RecallProofsSaid : Prop := recallProofsRow.holds Tryz.pinned (OpenSpec.ofChange recallProofsSpec)

/-- ITS FALSE NEIGHBOUR: 'it returns false'. Refute it at one input. -/
def recallProofsWrong : ChangeSpec := { name := "recallProofs", fn := fun _ => fun
  | [d1, d2, d3, d4, d5] => { results := [.lit (.bool false)], args := [d1, d2, d3, d4, d5] }
  | _ => none }
def RecallProofsWrongFalsely : Prop := recallProofsRow.holds Tryz.pinned (OpenSpec.ofChange recallProofsWrong)

/-- 'calxlaw09.RecallOthers': WHATEVER THE INPUT: true; the input reads as it did. -/
def recallOthersSpec : ChangeSpec := { name := "recallOthers", fn := fun _ => fun
  | [d1, d2, d3, d4, d5] => { results := [.lit (.bool true)], args := [d1, d2, d3, d4, d5] }
  | _ => none }
def recallOthersRow : OpenClaim := { program := "ytbblpokfbmekfaagreat", sum := "b72d029165463698b41a317ce3e459d9028811800729b5656d763ede00844dc4", func := "calx/calxlaw09.RecallOthers", spec := "recallOthers", unfollowed := true, recurses := true, apart := false }
def RecallOthersSaid : Prop := recallOthersRow.holds Tryz.pinned (OpenSpec.ofChange recallOthersSpec)

/-- ITS FALSE NEIGHBOUR: 'it returns false'. Refute it at one input. -/
def recallOthersWrong : ChangeSpec := { name := "recallOthers", fn := fun _ => fun
  | [d1, d2, d3, d4, d5] => { results := [.lit (.bool false)], args := [d1, d2, d3, d4, d5] }
  | _ => none }
def RecallOthersWrongFalsely : Prop := recallOthersRow.holds Tryz.pinned (OpenSpec.ofChange recallOthersWrong)

/- THE SECOND FORM. 'bulk': how many values and letters a reading holds, each counted each time it is reached (what is shared counts as often as it is met; a slice's spare places count too). A statement '..UptoSaid' is the law's where the arguments, and the package variables that the reading takes, are together of bulk at most 1048576: NARROWER than '..Said'. Prove '..Said' where nothing that the law and all that it calls make is longer than what came in: it says more and counts as full. Else prove '..UptoSaid'. A law counts once. -/
mutual
def uptoBulk {H : Type} : DataW H → Nat
  | .lit (.string bytes) => bytes.length + 1
  | .lit _ => 1
  | .nil => 1
  | .ptr d => uptoBulk d + 1
  | .slice elems spare => uptoBulkAll elems + uptoBulkAll spare + 1
  | .agg parts => uptoBulkAll parts + 1
  | .iface _ d => uptoBulk d + 1
  | .map entries => uptoBulkEntries entries + 1
  | .held _ => 1
def uptoBulkAll {H : Type} : List (DataW H) → Nat
  | [] => 0
  | d :: r => uptoBulk d + uptoBulkAll r
def uptoBulkEntries {H : Type} : List (Lit × DataW H) → Nat
  | [] => 0
  | x :: r => uptoBulkEntry x + uptoBulkEntries r
def uptoBulkEntry {H : Type} : Lit × DataW H → Nat
  | (.string bytes, d) => bytes.length + uptoBulk d + 1
  | (_, d) => uptoBulk d + 1
 end
def uptoSmall : (H : Type) → List (DataW H) → Bool := fun _ ds => decide (uptoBulkAll ds ≤ 1048576)
def OpenSpec.upto (s : _root_.Go.ChangeSpec) : _root_.Go.OpenSpec := { _root_.Go.OpenSpec.ofChange s with cond := some uptoSmall }

/-- 'calxlaw09.RecallOrigins', WHERE WHAT IT READS IS OF BULK AT MOST 1048576: true; the input reads as it did. -/
def recallOriginsUptoRow : OpenClaim := { program := "ytbblpokfbmekfaagreat", sum := "b72d029165463698b41a317ce3e459d9028811800729b5656d763ede00844dc4", func := "calx/calxlaw09.RecallOrigins", spec := "recallOrigins", unfollowed := true, recurses := true, apart := false, narrowed := true }
def RecallOriginsUptoSaid : Prop := recallOriginsUptoRow.holds Tryz.pinned (OpenSpec.upto recallOriginsSpec)

/-- 'calxlaw09.RecallHangs', WHERE WHAT IT READS IS OF BULK AT MOST 1048576: true; the input reads as it did. -/
def recallHangsUptoRow : OpenClaim := { program := "ytbblpokfbmekfaagreat", sum := "b72d029165463698b41a317ce3e459d9028811800729b5656d763ede00844dc4", func := "calx/calxlaw09.RecallHangs", spec := "recallHangs", unfollowed := true, recurses := true, apart := false, narrowed := true }
def RecallHangsUptoSaid : Prop := recallHangsUptoRow.holds Tryz.pinned (OpenSpec.upto recallHangsSpec)

/-- 'calxlaw09.RecallAsks', WHERE WHAT IT READS IS OF BULK AT MOST 1048576: true; the input reads as it did. -/
def recallAsksUptoRow : OpenClaim := { program := "ytbblpokfbmekfaagreat", sum := "b72d029165463698b41a317ce3e459d9028811800729b5656d763ede00844dc4", func := "calx/calxlaw09.RecallAsks", spec := "recallAsks", unfollowed := true, recurses := true, apart := false, narrowed := true }
def RecallAsksUptoSaid : Prop := recallAsksUptoRow.holds Tryz.pinned (OpenSpec.upto recallAsksSpec)

/-- 'calxlaw09.RecallCuts', WHERE WHAT IT READS IS OF BULK AT MOST 1048576: true; the input reads as it did. -/
def recallCutsUptoRow : OpenClaim := { program := "ytbblpokfbmekfaagreat", sum := "b72d029165463698b41a317ce3e459d9028811800729b5656d763ede00844dc4", func := "calx/calxlaw09.RecallCuts", spec := "recallCuts", unfollowed := true, recurses := true, apart := false, narrowed := true }
def RecallCutsUptoSaid : Prop := recallCutsUptoRow.holds Tryz.pinned (OpenSpec.upto recallCutsSpec)

/-- 'calxlaw09.RecallReaches', WHERE WHAT IT READS IS OF BULK AT MOST 1048576: true; the input reads as it did. -/
def recallReachesUptoRow : OpenClaim := { program := "ytbblpokfbmekfaagreat", sum := "b72d029165463698b41a317ce3e459d9028811800729b5656d763ede00844dc4", func := "calx/calxlaw09.RecallReaches", spec := "recallReaches", unfollowed := true, recurses := true, apart := false, narrowed := true }
def RecallReachesUptoSaid : Prop := recallReachesUptoRow.holds Tryz.pinned (OpenSpec.upto recallReachesSpec)

/-- 'calxlaw09.RecallClears', WHERE WHAT IT READS IS OF BULK AT MOST 1048576: true; the input reads as it did. -/
def recallClearsUptoRow : OpenClaim := { program := "ytbblpokfbmekfaagreat", sum := "b72d029165463698b41a317ce3e459d9028811800729b5656d763ede00844dc4", func := "calx/calxlaw09.RecallClears", spec := "recallClears", unfollowed := true, recurses := true, apart := false, narrowed := true }
def RecallClearsUptoSaid : Prop := recallClearsUptoRow.holds Tryz.pinned (OpenSpec.upto recallClearsSpec)

/-- 'calxlaw09.RecallWays', WHERE WHAT IT READS IS OF BULK AT MOST 1048576: true; the input reads as it did. -/
def recallWaysUptoRow : OpenClaim := { program := "ytbblpokfbmekfaagreat", sum := "b72d029165463698b41a317ce3e459d9028811800729b5656d763ede00844dc4", func := "calx/calxlaw09.RecallWays", spec := "recallWays", unfollowed := true, recurses := true, apart := false, narrowed := true }
def RecallWaysUptoSaid : Prop := recallWaysUptoRow.holds Tryz.pinned (OpenSpec.upto recallWaysSpec)

/-- 'calxlaw09.RecallHanging', WHERE WHAT IT READS IS OF BULK AT MOST 1048576: true; the input reads as it did. -/
def recallHangingUptoRow : OpenClaim := { program := "ytbblpokfbmekfaagreat", sum := "b72d029165463698b41a317ce3e459d9028811800729b5656d763ede00844dc4", func := "calx/calxlaw09.RecallHanging", spec := "recallHanging", unfollowed := true, recurses := true, apart := false, narrowed := true }
def RecallHangingUptoSaid : Prop := recallHangingUptoRow.holds Tryz.pinned (OpenSpec.upto recallHangingSpec)

/-- 'calxlaw09.RecallProofs', WHERE WHAT IT READS IS OF BULK AT MOST 1048576: true; the input reads as it did. -/
def recallProofsUptoRow : OpenClaim := { program := "ytbblpokfbmekfaagreat", sum := "b72d029165463698b41a317ce3e459d9028811800729b5656d763ede00844dc4", func := "calx/calxlaw09.RecallProofs", spec := "recallProofs", unfollowed := true, recurses := true, apart := false, narrowed := true }
def RecallProofsUptoSaid : Prop := recallProofsUptoRow.holds Tryz.pinned (OpenSpec.upto recallProofsSpec)

/-- 'calxlaw09.RecallOthers', WHERE WHAT IT READS IS OF BULK AT MOST 1048576: true; the input reads as it did. -/
def recallOthersUptoRow : OpenClaim := { program := "ytbblpokfbmekfaagreat", sum := "b72d029165463698b41a317ce3e459d9028811800729b5656d763ede00844dc4", func := "calx/calxlaw09.RecallOthers", spec := "recallOthers", unfollowed := true, recurses := true, apart := false, narrowed := true }
def RecallOthersUptoSaid : Prop := recallOthersUptoRow.holds Tryz.pinned (OpenSpec.upto recallOthersSpec)

end Rows
end Go.Proofs.YtbblpokfbmekfaaGreat
