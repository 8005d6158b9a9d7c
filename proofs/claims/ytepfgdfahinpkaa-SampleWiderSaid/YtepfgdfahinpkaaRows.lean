/-
  No cell of these rows narrows 'for every input' (looked for: loops, veiled, ifaces, maps, wideKeys, modest, calm, conditions, laid).
  DERIVED. THE GIVEN ROWS OF THIS SEAT. 19 by the template 'for every input the law returns true; each argument reads behind the call as it read before'; 0 by the template 'total and deterministic' (their statements: YtepfgdfahinpkaaTotals.lean).
  GIVEN WITH THE SEED: the statements are not yours to turn. If you find one false, say at which input.
  Laid BY PROGRAM, IN A SANDBOX (cutbox-rows.mjs): the forced cells as the released guide's own fill.sh prints them over the translation b88cf296fb15773c… (all of the seat's roots in one cut). By AI agents, Wed Nov 11 2026. No macro, syntax, notation, axiom, sorry.
-/
import Derived.Test.YtepfgdfahinpkaaChecked
import GoSem.Claim
import GoSem.ClaimJoined
import GoSem.ClaimMapViews
import Derived.JoinedTies
import Derived.KernelRfl
namespace Go.Proofs.Ytepfgdfahinpkaa
/- THE CELL 'sum', in the pinned program and in every row, IS THE sha256 OF THE DUMP (.gsa) THAT YtepfgdfahinpkaaProg.lean LOADS. Nothing in Lean hashes anything: it is a label: what it is worth is what the hold of that sum in a sandbox is worth. -/
noncomputable def Try.pinned : Pinned := { name := "ytepfgdfahinpkaa", sum := "b88cf296fb15773c09a715f05e1be09e3e1895e7be6628e3d590eebb33b7be0c", checked := Try.checked }
namespace Rows
def none {H : Type} : Left H := { results := [], args := [] }

/-- 'calxlaw03.SampleSmallest': WHATEVER THE INPUT: true; the input reads as it did. -/
def sampleSmallestSpec : ChangeSpec := { name := "sampleSmallest", fn := fun _ => fun
  | [d1, d2, d3, d4, d5] => { results := [.lit (.bool true)], args := [d1, d2, d3, d4, d5] }
  | _ => none }
def sampleSmallestRow : OpenClaim := { program := "ytepfgdfahinpkaa", sum := "b88cf296fb15773c09a715f05e1be09e3e1895e7be6628e3d590eebb33b7be0c", func := "calx/calxlaw03.SampleSmallest", spec := "sampleSmallest", unfollowed := true, recurses := true, apart := false }
def SampleSmallestSaid : Prop := sampleSmallestRow.holds Try.pinned (OpenSpec.ofChange sampleSmallestSpec)

/-- ITS FALSE NEIGHBOUR: 'it returns false'. Refute it at one input. -/
def sampleSmallestWrong : ChangeSpec := { name := "sampleSmallest", fn := fun _ => fun
  | [d1, d2, d3, d4, d5] => { results := [.lit (.bool false)], args := [d1, d2, d3, d4, d5] }
  | _ => none }
def SampleSmallestWrongFalsely : Prop := sampleSmallestRow.holds Try.pinned (OpenSpec.ofChange sampleSmallestWrong)

/-- 'calxlaw03.SampleTogether': WHATEVER THE INPUT: true; the input reads as it did. -/
def sampleTogetherSpec : ChangeSpec := { name := "sampleTogether", fn := fun _ => fun
  | [d1, d2, d3] => { results := [.lit (.bool true)], args := [d1, d2, d3] }
  | _ => none }
def sampleTogetherRow : OpenClaim := { program := "ytepfgdfahinpkaa", sum := "b88cf296fb15773c09a715f05e1be09e3e1895e7be6628e3d590eebb33b7be0c", func := "calx/calxlaw03.SampleTogether", spec := "sampleTogether", unfollowed := true, recurses := true, apart := false }
def SampleTogetherSaid : Prop := sampleTogetherRow.holds Try.pinned (OpenSpec.ofChange sampleTogetherSpec)

/-- ITS FALSE NEIGHBOUR: 'it returns false'. Refute it at one input. -/
def sampleTogetherWrong : ChangeSpec := { name := "sampleTogether", fn := fun _ => fun
  | [d1, d2, d3] => { results := [.lit (.bool false)], args := [d1, d2, d3] }
  | _ => none }
def SampleTogetherWrongFalsely : Prop := sampleTogetherRow.holds Try.pinned (OpenSpec.ofChange sampleTogetherWrong)

/-- 'calxlaw03.SampleWays': WHATEVER THE INPUT: true; the input reads as it did. -/
def sampleWaysSpec : ChangeSpec := { name := "sampleWays", fn := fun _ => fun
  | [d1, d2, d3, d4] => { results := [.lit (.bool true)], args := [d1, d2, d3, d4] }
  | _ => none }
def sampleWaysRow : OpenClaim := { program := "ytepfgdfahinpkaa", sum := "b88cf296fb15773c09a715f05e1be09e3e1895e7be6628e3d590eebb33b7be0c", func := "calx/calxlaw03.SampleWays", spec := "sampleWays", unfollowed := true, recurses := true, apart := false }
def SampleWaysSaid : Prop := sampleWaysRow.holds Try.pinned (OpenSpec.ofChange sampleWaysSpec)

/-- ITS FALSE NEIGHBOUR: 'it returns false'. Refute it at one input. -/
def sampleWaysWrong : ChangeSpec := { name := "sampleWays", fn := fun _ => fun
  | [d1, d2, d3, d4] => { results := [.lit (.bool false)], args := [d1, d2, d3, d4] }
  | _ => none }
def SampleWaysWrongFalsely : Prop := sampleWaysRow.holds Try.pinned (OpenSpec.ofChange sampleWaysWrong)

/-- 'calxlaw03.SampleBatches': WHATEVER THE INPUT: true; the input reads as it did. -/
def sampleBatchesSpec : ChangeSpec := { name := "sampleBatches", fn := fun _ => fun
  | [d1, d2] => { results := [.lit (.bool true)], args := [d1, d2] }
  | _ => none }
def sampleBatchesRow : OpenClaim := { program := "ytepfgdfahinpkaa", sum := "b88cf296fb15773c09a715f05e1be09e3e1895e7be6628e3d590eebb33b7be0c", func := "calx/calxlaw03.SampleBatches", spec := "sampleBatches", unfollowed := true, recurses := true, apart := false }
def SampleBatchesSaid : Prop := sampleBatchesRow.holds Try.pinned (OpenSpec.ofChange sampleBatchesSpec)

/-- ITS FALSE NEIGHBOUR: 'it returns false'. Refute it at one input. -/
def sampleBatchesWrong : ChangeSpec := { name := "sampleBatches", fn := fun _ => fun
  | [d1, d2] => { results := [.lit (.bool false)], args := [d1, d2] }
  | _ => none }
def SampleBatchesWrongFalsely : Prop := sampleBatchesRow.holds Try.pinned (OpenSpec.ofChange sampleBatchesWrong)

/-- 'calxlaw03.SampleAddsUp': WHATEVER THE INPUT: true; the input reads as it did. -/
def sampleAddsUpSpec : ChangeSpec := { name := "sampleAddsUp", fn := fun _ => fun
  | [d1, d2] => { results := [.lit (.bool true)], args := [d1, d2] }
  | _ => none }
def sampleAddsUpRow : OpenClaim := { program := "ytepfgdfahinpkaa", sum := "b88cf296fb15773c09a715f05e1be09e3e1895e7be6628e3d590eebb33b7be0c", func := "calx/calxlaw03.SampleAddsUp", spec := "sampleAddsUp", unfollowed := true, recurses := true, apart := false }
def SampleAddsUpSaid : Prop := sampleAddsUpRow.holds Try.pinned (OpenSpec.ofChange sampleAddsUpSpec)

/-- ITS FALSE NEIGHBOUR: 'it returns false'. Refute it at one input. -/
def sampleAddsUpWrong : ChangeSpec := { name := "sampleAddsUp", fn := fun _ => fun
  | [d1, d2] => { results := [.lit (.bool false)], args := [d1, d2] }
  | _ => none }
def SampleAddsUpWrongFalsely : Prop := sampleAddsUpRow.holds Try.pinned (OpenSpec.ofChange sampleAddsUpWrong)

/-- 'calxlaw03.SampleMeans': WHATEVER THE INPUT: true; the input reads as it did. -/
def sampleMeansSpec : ChangeSpec := { name := "sampleMeans", fn := fun _ => fun
  | [d] => { results := [.lit (.bool true)], args := [d] }
  | _ => none }
def sampleMeansRow : OpenClaim := { program := "ytepfgdfahinpkaa", sum := "b88cf296fb15773c09a715f05e1be09e3e1895e7be6628e3d590eebb33b7be0c", func := "calx/calxlaw03.SampleMeans", spec := "sampleMeans", unfollowed := true, recurses := true, apart := false }
def SampleMeansSaid : Prop := sampleMeansRow.holds Try.pinned (OpenSpec.ofChange sampleMeansSpec)

/-- ITS FALSE NEIGHBOUR: 'it returns false'. Refute it at one input. -/
def sampleMeansWrong : ChangeSpec := { name := "sampleMeans", fn := fun _ => fun
  | [d] => { results := [.lit (.bool false)], args := [d] }
  | _ => none }
def SampleMeansWrongFalsely : Prop := sampleMeansRow.holds Try.pinned (OpenSpec.ofChange sampleMeansWrong)

/-- 'calxlaw03.SampleSums': WHATEVER THE INPUT: true; the input reads as it did. -/
def sampleSumsSpec : ChangeSpec := { name := "sampleSums", fn := fun _ => fun
  | [d1, d2, d3, d4, d5] => { results := [.lit (.bool true)], args := [d1, d2, d3, d4, d5] }
  | _ => none }
def sampleSumsRow : OpenClaim := { program := "ytepfgdfahinpkaa", sum := "b88cf296fb15773c09a715f05e1be09e3e1895e7be6628e3d590eebb33b7be0c", func := "calx/calxlaw03.SampleSums", spec := "sampleSums", unfollowed := true, recurses := true, apart := false }
def SampleSumsSaid : Prop := sampleSumsRow.holds Try.pinned (OpenSpec.ofChange sampleSumsSpec)

/-- ITS FALSE NEIGHBOUR: 'it returns false'. Refute it at one input. -/
def sampleSumsWrong : ChangeSpec := { name := "sampleSums", fn := fun _ => fun
  | [d1, d2, d3, d4, d5] => { results := [.lit (.bool false)], args := [d1, d2, d3, d4, d5] }
  | _ => none }
def SampleSumsWrongFalsely : Prop := sampleSumsRow.holds Try.pinned (OpenSpec.ofChange sampleSumsWrong)

/-- 'calxlaw03.SampleShortest': WHATEVER THE INPUT: true; the input reads as it did. -/
def sampleShortestSpec : ChangeSpec := { name := "sampleShortest", fn := fun _ => fun
  | [d1, d2, d3, d4] => { results := [.lit (.bool true)], args := [d1, d2, d3, d4] }
  | _ => none }
def sampleShortestRow : OpenClaim := { program := "ytepfgdfahinpkaa", sum := "b88cf296fb15773c09a715f05e1be09e3e1895e7be6628e3d590eebb33b7be0c", func := "calx/calxlaw03.SampleShortest", spec := "sampleShortest", unfollowed := true, recurses := true, apart := false }
def SampleShortestSaid : Prop := sampleShortestRow.holds Try.pinned (OpenSpec.ofChange sampleShortestSpec)

/-- ITS FALSE NEIGHBOUR: 'it returns false'. Refute it at one input. -/
def sampleShortestWrong : ChangeSpec := { name := "sampleShortest", fn := fun _ => fun
  | [d1, d2, d3, d4] => { results := [.lit (.bool false)], args := [d1, d2, d3, d4] }
  | _ => none }
def SampleShortestWrongFalsely : Prop := sampleShortestRow.holds Try.pinned (OpenSpec.ofChange sampleShortestWrong)

/-- 'calxlaw03.SampleWider': WHATEVER THE INPUT: true; the input reads as it did. -/
def sampleWiderSpec : ChangeSpec := { name := "sampleWider", fn := fun _ => fun
  | [d1, d2, d3, d4] => { results := [.lit (.bool true)], args := [d1, d2, d3, d4] }
  | _ => none }
def sampleWiderRow : OpenClaim := { program := "ytepfgdfahinpkaa", sum := "b88cf296fb15773c09a715f05e1be09e3e1895e7be6628e3d590eebb33b7be0c", func := "calx/calxlaw03.SampleWider", spec := "sampleWider", unfollowed := true, recurses := true, apart := false }
def SampleWiderSaid : Prop := sampleWiderRow.holds Try.pinned (OpenSpec.ofChange sampleWiderSpec)

/-- ITS FALSE NEIGHBOUR: 'it returns false'. Refute it at one input. -/
def sampleWiderWrong : ChangeSpec := { name := "sampleWider", fn := fun _ => fun
  | [d1, d2, d3, d4] => { results := [.lit (.bool false)], args := [d1, d2, d3, d4] }
  | _ => none }
def SampleWiderWrongFalsely : Prop := sampleWiderRow.holds Try.pinned (OpenSpec.ofChange sampleWiderWrong)

/-- 'calxlaw03.SampleBelief': WHATEVER THE INPUT: true; the input reads as it did. -/
def sampleBeliefSpec : ChangeSpec := { name := "sampleBelief", fn := fun _ => fun
  | [d1, d2, d3] => { results := [.lit (.bool true)], args := [d1, d2, d3] }
  | _ => none }
def sampleBeliefRow : OpenClaim := { program := "ytepfgdfahinpkaa", sum := "b88cf296fb15773c09a715f05e1be09e3e1895e7be6628e3d590eebb33b7be0c", func := "calx/calxlaw03.SampleBelief", spec := "sampleBelief", unfollowed := true, recurses := true, apart := false }
def SampleBeliefSaid : Prop := sampleBeliefRow.holds Try.pinned (OpenSpec.ofChange sampleBeliefSpec)

/-- ITS FALSE NEIGHBOUR: 'it returns false'. Refute it at one input. -/
def sampleBeliefWrong : ChangeSpec := { name := "sampleBelief", fn := fun _ => fun
  | [d1, d2, d3] => { results := [.lit (.bool false)], args := [d1, d2, d3] }
  | _ => none }
def SampleBeliefWrongFalsely : Prop := sampleBeliefRow.holds Try.pinned (OpenSpec.ofChange sampleBeliefWrong)

/-- 'calxlaw03.SampleLevels': WHATEVER THE INPUT: true; the input reads as it did. -/
def sampleLevelsSpec : ChangeSpec := { name := "sampleLevels", fn := fun _ => fun
  | [d1, d2, d3, d4, d5] => { results := [.lit (.bool true)], args := [d1, d2, d3, d4, d5] }
  | _ => none }
def sampleLevelsRow : OpenClaim := { program := "ytepfgdfahinpkaa", sum := "b88cf296fb15773c09a715f05e1be09e3e1895e7be6628e3d590eebb33b7be0c", func := "calx/calxlaw03.SampleLevels", spec := "sampleLevels", unfollowed := true, recurses := true, apart := false }
def SampleLevelsSaid : Prop := sampleLevelsRow.holds Try.pinned (OpenSpec.ofChange sampleLevelsSpec)

/-- ITS FALSE NEIGHBOUR: 'it returns false'. Refute it at one input. -/
def sampleLevelsWrong : ChangeSpec := { name := "sampleLevels", fn := fun _ => fun
  | [d1, d2, d3, d4, d5] => { results := [.lit (.bool false)], args := [d1, d2, d3, d4, d5] }
  | _ => none }
def SampleLevelsWrongFalsely : Prop := sampleLevelsRow.holds Try.pinned (OpenSpec.ofChange sampleLevelsWrong)

/-- 'calxlaw03.SampleLeast': WHATEVER THE INPUT: true; the input reads as it did. -/
def sampleLeastSpec : ChangeSpec := { name := "sampleLeast", fn := fun _ => fun
  | [d1, d2, d3, d4, d5] => { results := [.lit (.bool true)], args := [d1, d2, d3, d4, d5] }
  | _ => none }
def sampleLeastRow : OpenClaim := { program := "ytepfgdfahinpkaa", sum := "b88cf296fb15773c09a715f05e1be09e3e1895e7be6628e3d590eebb33b7be0c", func := "calx/calxlaw03.SampleLeast", spec := "sampleLeast", unfollowed := true, recurses := true, apart := false }
def SampleLeastSaid : Prop := sampleLeastRow.holds Try.pinned (OpenSpec.ofChange sampleLeastSpec)

/-- ITS FALSE NEIGHBOUR: 'it returns false'. Refute it at one input. -/
def sampleLeastWrong : ChangeSpec := { name := "sampleLeast", fn := fun _ => fun
  | [d1, d2, d3, d4, d5] => { results := [.lit (.bool false)], args := [d1, d2, d3, d4, d5] }
  | _ => none }
def SampleLeastWrongFalsely : Prop := sampleLeastRow.holds Try.pinned (OpenSpec.ofChange sampleLeastWrong)

/-- 'calxlaw03.SampleBounds': WHATEVER THE INPUT: true; the input reads as it did. -/
def sampleBoundsSpec : ChangeSpec := { name := "sampleBounds", fn := fun _ => fun
  | [d1, d2, d3, d4, d5, d6] => { results := [.lit (.bool true)], args := [d1, d2, d3, d4, d5, d6] }
  | _ => none }
def sampleBoundsRow : OpenClaim := { program := "ytepfgdfahinpkaa", sum := "b88cf296fb15773c09a715f05e1be09e3e1895e7be6628e3d590eebb33b7be0c", func := "calx/calxlaw03.SampleBounds", spec := "sampleBounds", unfollowed := true, recurses := true, apart := false }
def SampleBoundsSaid : Prop := sampleBoundsRow.holds Try.pinned (OpenSpec.ofChange sampleBoundsSpec)

/-- ITS FALSE NEIGHBOUR: 'it returns false'. Refute it at one input. -/
def sampleBoundsWrong : ChangeSpec := { name := "sampleBounds", fn := fun _ => fun
  | [d1, d2, d3, d4, d5, d6] => { results := [.lit (.bool false)], args := [d1, d2, d3, d4, d5, d6] }
  | _ => none }
def SampleBoundsWrongFalsely : Prop := sampleBoundsRow.holds Try.pinned (OpenSpec.ofChange sampleBoundsWrong)

/-- 'calxlaw03.SampleBelieves': WHATEVER THE INPUT: true; the input reads as it did. -/
def sampleBelievesSpec : ChangeSpec := { name := "sampleBelieves", fn := fun _ => fun
  | [d1, d2, d3, d4] => { results := [.lit (.bool true)], args := [d1, d2, d3, d4] }
  | _ => none }
def sampleBelievesRow : OpenClaim := { program := "ytepfgdfahinpkaa", sum := "b88cf296fb15773c09a715f05e1be09e3e1895e7be6628e3d590eebb33b7be0c", func := "calx/calxlaw03.SampleBelieves", spec := "sampleBelieves", unfollowed := true, recurses := true, apart := false }
def SampleBelievesSaid : Prop := sampleBelievesRow.holds Try.pinned (OpenSpec.ofChange sampleBelievesSpec)

/-- ITS FALSE NEIGHBOUR: 'it returns false'. Refute it at one input. -/
def sampleBelievesWrong : ChangeSpec := { name := "sampleBelieves", fn := fun _ => fun
  | [d1, d2, d3, d4] => { results := [.lit (.bool false)], args := [d1, d2, d3, d4] }
  | _ => none }
def SampleBelievesWrongFalsely : Prop := sampleBelievesRow.holds Try.pinned (OpenSpec.ofChange sampleBelievesWrong)

/-- 'calxlaw03.SampleMore': WHATEVER THE INPUT: true; the input reads as it did. -/
def sampleMoreSpec : ChangeSpec := { name := "sampleMore", fn := fun _ => fun
  | [d1, d2] => { results := [.lit (.bool true)], args := [d1, d2] }
  | _ => none }
def sampleMoreRow : OpenClaim := { program := "ytepfgdfahinpkaa", sum := "b88cf296fb15773c09a715f05e1be09e3e1895e7be6628e3d590eebb33b7be0c", func := "calx/calxlaw03.SampleMore", spec := "sampleMore", unfollowed := true, recurses := true, apart := false }
def SampleMoreSaid : Prop := sampleMoreRow.holds Try.pinned (OpenSpec.ofChange sampleMoreSpec)

/-- ITS FALSE NEIGHBOUR: 'it returns false'. Refute it at one input. -/
def sampleMoreWrong : ChangeSpec := { name := "sampleMore", fn := fun _ => fun
  | [d1, d2] => { results := [.lit (.bool false)], args := [d1, d2] }
  | _ => none }
def SampleMoreWrongFalsely : Prop := sampleMoreRow.holds Try.pinned (OpenSpec.ofChange sampleMoreWrong)

/-- 'calxlaw03.SampleOrder': WHATEVER THE INPUT: true; the input reads as it did. -/
def sampleOrderSpec : ChangeSpec := { name := "sampleOrder", fn := fun _ => fun
  | [d1, d2, d3, d4] => { results := [.lit (.bool true)], args := [d1, d2, d3, d4] }
  | _ => none }
def sampleOrderRow : OpenClaim := { program := "ytepfgdfahinpkaa", sum := "b88cf296fb15773c09a715f05e1be09e3e1895e7be6628e3d590eebb33b7be0c", func := "calx/calxlaw03.SampleOrder", spec := "sampleOrder", unfollowed := true, recurses := true, apart := false }
def SampleOrderSaid : Prop := sampleOrderRow.holds Try.pinned (OpenSpec.ofChange sampleOrderSpec)

/-- ITS FALSE NEIGHBOUR: 'it returns false'. Refute it at one input. -/
def sampleOrderWrong : ChangeSpec := { name := "sampleOrder", fn := fun _ => fun
  | [d1, d2, d3, d4] => { results := [.lit (.bool false)], args := [d1, d2, d3, d4] }
  | _ => none }
def SampleOrderWrongFalsely : Prop := sampleOrderRow.holds Try.pinned (OpenSpec.ofChange sampleOrderWrong)

/-- 'calxlaw03.SamplePlans': WHATEVER THE INPUT: true; the input reads as it did. -/
def samplePlansSpec : ChangeSpec := { name := "samplePlans", fn := fun _ => fun
  | [d1, d2, d3, d4] => { results := [.lit (.bool true)], args := [d1, d2, d3, d4] }
  | _ => none }
def samplePlansRow : OpenClaim := { program := "ytepfgdfahinpkaa", sum := "b88cf296fb15773c09a715f05e1be09e3e1895e7be6628e3d590eebb33b7be0c", func := "calx/calxlaw03.SamplePlans", spec := "samplePlans", unfollowed := true, recurses := true, apart := false }
def SamplePlansSaid : Prop := samplePlansRow.holds Try.pinned (OpenSpec.ofChange samplePlansSpec)

/-- ITS FALSE NEIGHBOUR: 'it returns false'. Refute it at one input. -/
def samplePlansWrong : ChangeSpec := { name := "samplePlans", fn := fun _ => fun
  | [d1, d2, d3, d4] => { results := [.lit (.bool false)], args := [d1, d2, d3, d4] }
  | _ => none }
def SamplePlansWrongFalsely : Prop := samplePlansRow.holds Try.pinned (OpenSpec.ofChange samplePlansWrong)

/-- 'calxlaw03.SampleTrials': WHATEVER THE INPUT: true; the input reads as it did. -/
def sampleTrialsSpec : ChangeSpec := { name := "sampleTrials", fn := fun _ => fun
  | [d1, d2, d3] => { results := [.lit (.bool true)], args := [d1, d2, d3] }
  | _ => none }
def sampleTrialsRow : OpenClaim := { program := "ytepfgdfahinpkaa", sum := "b88cf296fb15773c09a715f05e1be09e3e1895e7be6628e3d590eebb33b7be0c", func := "calx/calxlaw03.SampleTrials", spec := "sampleTrials", unfollowed := true, recurses := true, apart := false }
def SampleTrialsSaid : Prop := sampleTrialsRow.holds Try.pinned (OpenSpec.ofChange sampleTrialsSpec)

/-- ITS FALSE NEIGHBOUR: 'it returns false'. Refute it at one input. -/
def sampleTrialsWrong : ChangeSpec := { name := "sampleTrials", fn := fun _ => fun
  | [d1, d2, d3] => { results := [.lit (.bool false)], args := [d1, d2, d3] }
  | _ => none }
def SampleTrialsWrongFalsely : Prop := sampleTrialsRow.holds Try.pinned (OpenSpec.ofChange sampleTrialsWrong)

/-- 'calxlaw03.SampleBins': WHATEVER THE INPUT: true; the input reads as it did. -/
def sampleBinsSpec : ChangeSpec := { name := "sampleBins", fn := fun _ => fun
  | [d1, d2] => { results := [.lit (.bool true)], args := [d1, d2] }
  | _ => none }
def sampleBinsRow : OpenClaim := { program := "ytepfgdfahinpkaa", sum := "b88cf296fb15773c09a715f05e1be09e3e1895e7be6628e3d590eebb33b7be0c", func := "calx/calxlaw03.SampleBins", spec := "sampleBins", unfollowed := true, recurses := true, apart := false }
def SampleBinsSaid : Prop := sampleBinsRow.holds Try.pinned (OpenSpec.ofChange sampleBinsSpec)

/-- ITS FALSE NEIGHBOUR: 'it returns false'. Refute it at one input. -/
def sampleBinsWrong : ChangeSpec := { name := "sampleBins", fn := fun _ => fun
  | [d1, d2] => { results := [.lit (.bool false)], args := [d1, d2] }
  | _ => none }
def SampleBinsWrongFalsely : Prop := sampleBinsRow.holds Try.pinned (OpenSpec.ofChange sampleBinsWrong)

/- THE SECOND FORM. 'bulk': how many values and letters a reading holds, each counted each time it is reached (what is shared counts as often as it is met; a slice's spare places count too). A statement '..UptoSaid' is the law's where the arguments, and the package variables that the reading takes, are together of bulk at most 1048576: NARROWER than '..Said'. Prove '..Said' where nothing that the law and all that it calls make is longer than what came in: it says more and counts as full. Else prove '..UptoSaid'. A law counts once. -/
mutual
def uptoBulk {H : Type} : DataW H → Nat
  | .lit (.string bytes) => bytes.length + 1
  | .lit _ => 1
  | .nil => 1
  | .ptr d => uptoBulk d + 1
  | .slice elems spare => uptoBulkAll elems + uptoBulkAll spare + 1
  | .agg parts => uptoBulkAll parts + 1
  | .iface _ d => uptoBulk d + 1
  | .map entries => uptoBulkEntries entries + 1
  | .held _ => 1
def uptoBulkAll {H : Type} : List (DataW H) → Nat
  | [] => 0
  | d :: r => uptoBulk d + uptoBulkAll r
def uptoBulkEntries {H : Type} : List (Lit × DataW H) → Nat
  | [] => 0
  | x :: r => uptoBulkEntry x + uptoBulkEntries r
def uptoBulkEntry {H : Type} : Lit × DataW H → Nat
  | (.string bytes, d) => bytes.length + uptoBulk d + 1
  | (_, d) => uptoBulk d + 1
 end
def uptoSmall : (H : Type) → List (DataW H) → Bool := fun _ ds => decide (uptoBulkAll ds ≤ 1048576)
def OpenSpec.upto (s : _root_.Go.ChangeSpec) : _root_.Go.OpenSpec := { _root_.Go.OpenSpec.ofChange s with cond := some uptoSmall }

/-- 'calxlaw03.SampleSmallest', WHERE WHAT IT READS IS OF BULK AT MOST 1048576: true; the input reads as it did. -/
def sampleSmallestUptoRow : OpenClaim := { program := "ytepfgdfahinpkaa", sum := "b88cf296fb15773c09a715f05e1be09e3e1895e7be6628e3d590eebb33b7be0c", func := "calx/calxlaw03.SampleSmallest", spec := "sampleSmallest", unfollowed := true, recurses := true, apart := false, narrowed := true }
def SampleSmallestUptoSaid : Prop := sampleSmallestUptoRow.holds Try.pinned (OpenSpec.upto sampleSmallestSpec)

/-- 'calxlaw03.SampleTogether', WHERE WHAT IT READS IS OF BULK AT MOST 1048576: true; the input reads as it did. -/
def sampleTogetherUptoRow : OpenClaim := { program := "ytepfgdfahinpkaa", sum := "b88cf296fb15773c09a715f05e1be09e3e1895e7be6628e3d590eebb33b7be0c", func := "calx/calxlaw03.SampleTogether", spec := "sampleTogether", unfollowed := true, recurses := true, apart := false, narrowed := true }
def SampleTogetherUptoSaid : Prop := sampleTogetherUptoRow.holds Try.pinned (OpenSpec.upto sampleTogetherSpec)

/-- 'calxlaw03.SampleWays', WHERE WHAT IT READS IS OF BULK AT MOST 1048576: true; the input reads as it did. -/
def sampleWaysUptoRow : OpenClaim := { program := "ytepfgdfahinpkaa", sum := "b88cf296fb15773c09a715f05e1be09e3e1895e7be6628e3d590eebb33b7be0c", func := "calx/calxlaw03.SampleWays", spec := "sampleWays", unfollowed := true, recurses := true, apart := false, narrowed := true }
def SampleWaysUptoSaid : Prop := sampleWaysUptoRow.holds Try.pinned (OpenSpec.upto sampleWaysSpec)

/-- 'calxlaw03.SampleBatches', WHERE WHAT IT READS IS OF BULK AT MOST 1048576: true; the input reads as it did. -/
def sampleBatchesUptoRow : OpenClaim := { program := "ytepfgdfahinpkaa", sum := "b88cf296fb15773c09a715f05e1be09e3e1895e7be6628e3d590eebb33b7be0c", func := "calx/calxlaw03.SampleBatches", spec := "sampleBatches", unfollowed := true, recurses := true, apart := false, narrowed := true }
def SampleBatchesUptoSaid : Prop := sampleBatchesUptoRow.holds Try.pinned (OpenSpec.upto sampleBatchesSpec)

/-- 'calxlaw03.SampleAddsUp', WHERE WHAT IT READS IS OF BULK AT MOST 1048576: true; the input reads as it did. -/
def sampleAddsUpUptoRow : OpenClaim := { program := "ytepfgdfahinpkaa", sum := "b88cf296fb15773c09a715f05e1be09e3e1895e7be6628e3d590eebb33b7be0c", func := "calx/calxlaw03.SampleAddsUp", spec := "sampleAddsUp", unfollowed := true, recurses := true, apart := false, narrowed := true }
def SampleAddsUpUptoSaid : Prop := sampleAddsUpUptoRow.holds Try.pinned (OpenSpec.upto sampleAddsUpSpec)

/-- 'calxlaw03.SampleMeans', WHERE WHAT IT READS IS OF BULK AT MOST 1048576: true; the input reads as it did. -/
def sampleMeansUptoRow : OpenClaim := { program := "ytepfgdfahinpkaa", sum := "b88cf296fb15773c09a715f05e1be09e3e1895e7be6628e3d590eebb33b7be0c", func := "calx/calxlaw03.SampleMeans", spec := "sampleMeans", unfollowed := true, recurses := true, apart := false, narrowed := true }
def SampleMeansUptoSaid : Prop := sampleMeansUptoRow.holds Try.pinned (OpenSpec.upto sampleMeansSpec)

/-- 'calxlaw03.SampleSums', WHERE WHAT IT READS IS OF BULK AT MOST 1048576: true; the input reads as it did. -/
def sampleSumsUptoRow : OpenClaim := { program := "ytepfgdfahinpkaa", sum := "b88cf296fb15773c09a715f05e1be09e3e1895e7be6628e3d590eebb33b7be0c", func := "calx/calxlaw03.SampleSums", spec := "sampleSums", unfollowed := true, recurses := true, apart := false, narrowed := true }
def SampleSumsUptoSaid : Prop := sampleSumsUptoRow.holds Try.pinned (OpenSpec.upto sampleSumsSpec)

/-- 'calxlaw03.SampleShortest', WHERE WHAT IT READS IS OF BULK AT MOST 1048576: true; the input reads as it did. -/
def sampleShortestUptoRow : OpenClaim := { program := "ytepfgdfahinpkaa", sum := "b88cf296fb15773c09a715f05e1be09e3e1895e7be6628e3d590eebb33b7be0c", func := "calx/calxlaw03.SampleShortest", spec := "sampleShortest", unfollowed := true, recurses := true, apart := false, narrowed := true }
def SampleShortestUptoSaid : Prop := sampleShortestUptoRow.holds Try.pinned (OpenSpec.upto sampleShortestSpec)

/-- 'calxlaw03.SampleWider', WHERE WHAT IT READS IS OF BULK AT MOST 1048576: true; the input reads as it did. -/
def sampleWiderUptoRow : OpenClaim := { program := "ytepfgdfahinpkaa", sum := "b88cf296fb15773c09a715f05e1be09e3e1895e7be6628e3d590eebb33b7be0c", func := "calx/calxlaw03.SampleWider", spec := "sampleWider", unfollowed := true, recurses := true, apart := false, narrowed := true }
def SampleWiderUptoSaid : Prop := sampleWiderUptoRow.holds Try.pinned (OpenSpec.upto sampleWiderSpec)

/-- 'calxlaw03.SampleBelief', WHERE WHAT IT READS IS OF BULK AT MOST 1048576: true; the input reads as it did. -/
def sampleBeliefUptoRow : OpenClaim := { program := "ytepfgdfahinpkaa", sum := "b88cf296fb15773c09a715f05e1be09e3e1895e7be6628e3d590eebb33b7be0c", func := "calx/calxlaw03.SampleBelief", spec := "sampleBelief", unfollowed := true, recurses := true, apart := false, narrowed := true }
def SampleBeliefUptoSaid : Prop := sampleBeliefUptoRow.holds Try.pinned (OpenSpec.upto sampleBeliefSpec)

/-- 'calxlaw03.SampleLevels', WHERE WHAT IT READS IS OF BULK AT MOST 1048576: true; the input reads as it did. -/
def sampleLevelsUptoRow : OpenClaim := { program := "ytepfgdfahinpkaa", sum := "b88cf296fb15773c09a715f05e1be09e3e1895e7be6628e3d590eebb33b7be0c", func := "calx/calxlaw03.SampleLevels", spec := "sampleLevels", unfollowed := true, recurses := true, apart := false, narrowed := true }
def SampleLevelsUptoSaid : Prop := sampleLevelsUptoRow.holds Try.pinned (OpenSpec.upto sampleLevelsSpec)

/-- 'calxlaw03.SampleLeast', WHERE WHAT IT READS IS OF BULK AT MOST 1048576: true; the input reads as it did. -/
def sampleLeastUptoRow : OpenClaim := { program := "ytepfgdfahinpkaa", sum := "b88cf296fb15773c09a715f05e1be09e3e1895e7be6628e3d590eebb33b7be0c", func := "calx/calxlaw03.SampleLeast", spec := "sampleLeast", unfollowed := true, recurses := true, apart := false, narrowed := true }
def SampleLeastUptoSaid : Prop := sampleLeastUptoRow.holds Try.pinned (OpenSpec.upto sampleLeastSpec)

/-- 'calxlaw03.SampleBounds', WHERE WHAT IT READS IS OF BULK AT MOST 1048576: true; the input reads as it did. -/
def sampleBoundsUptoRow : OpenClaim := { program := "ytepfgdfahinpkaa", sum := "b88cf296fb15773c09a715f05e1be09e3e1895e7be6628e3d590eebb33b7be0c", func := "calx/calxlaw03.SampleBounds", spec := "sampleBounds", unfollowed := true, recurses := true, apart := false, narrowed := true }
def SampleBoundsUptoSaid : Prop := sampleBoundsUptoRow.holds Try.pinned (OpenSpec.upto sampleBoundsSpec)

/-- 'calxlaw03.SampleBelieves', WHERE WHAT IT READS IS OF BULK AT MOST 1048576: true; the input reads as it did. -/
def sampleBelievesUptoRow : OpenClaim := { program := "ytepfgdfahinpkaa", sum := "b88cf296fb15773c09a715f05e1be09e3e1895e7be6628e3d590eebb33b7be0c", func := "calx/calxlaw03.SampleBelieves", spec := "sampleBelieves", unfollowed := true, recurses := true, apart := false, narrowed := true }
def SampleBelievesUptoSaid : Prop := sampleBelievesUptoRow.holds Try.pinned (OpenSpec.upto sampleBelievesSpec)

/-- 'calxlaw03.SampleMore', WHERE WHAT IT READS IS OF BULK AT MOST 1048576: true; the input reads as it did. -/
def sampleMoreUptoRow : OpenClaim := { program := "ytepfgdfahinpkaa", sum := "b88cf296fb15773c09a715f05e1be09e3e1895e7be6628e3d590eebb33b7be0c", func := "calx/calxlaw03.SampleMore", spec := "sampleMore", unfollowed := true, recurses := true, apart := false, narrowed := true }
def SampleMoreUptoSaid : Prop := sampleMoreUptoRow.holds Try.pinned (OpenSpec.upto sampleMoreSpec)

/-- 'calxlaw03.SampleOrder', WHERE WHAT IT READS IS OF BULK AT MOST 1048576: true; the input reads as it did. -/
def sampleOrderUptoRow : OpenClaim := { program := "ytepfgdfahinpkaa", sum := "b88cf296fb15773c09a715f05e1be09e3e1895e7be6628e3d590eebb33b7be0c", func := "calx/calxlaw03.SampleOrder", spec := "sampleOrder", unfollowed := true, recurses := true, apart := false, narrowed := true }
def SampleOrderUptoSaid : Prop := sampleOrderUptoRow.holds Try.pinned (OpenSpec.upto sampleOrderSpec)

/-- 'calxlaw03.SamplePlans', WHERE WHAT IT READS IS OF BULK AT MOST 1048576: true; the input reads as it did. -/
def samplePlansUptoRow : OpenClaim := { program := "ytepfgdfahinpkaa", sum := "b88cf296fb15773c09a715f05e1be09e3e1895e7be6628e3d590eebb33b7be0c", func := "calx/calxlaw03.SamplePlans", spec := "samplePlans", unfollowed := true, recurses := true, apart := false, narrowed := true }
def SamplePlansUptoSaid : Prop := samplePlansUptoRow.holds Try.pinned (OpenSpec.upto samplePlansSpec)

/-- 'calxlaw03.SampleTrials', WHERE WHAT IT READS IS OF BULK AT MOST 1048576: true; the input reads as it did. -/
def sampleTrialsUptoRow : OpenClaim := { program := "ytepfgdfahinpkaa", sum := "b88cf296fb15773c09a715f05e1be09e3e1895e7be6628e3d590eebb33b7be0c", func := "calx/calxlaw03.SampleTrials", spec := "sampleTrials", unfollowed := true, recurses := true, apart := false, narrowed := true }
def SampleTrialsUptoSaid : Prop := sampleTrialsUptoRow.holds Try.pinned (OpenSpec.upto sampleTrialsSpec)

/-- 'calxlaw03.SampleBins', WHERE WHAT IT READS IS OF BULK AT MOST 1048576: true; the input reads as it did. -/
def sampleBinsUptoRow : OpenClaim := { program := "ytepfgdfahinpkaa", sum := "b88cf296fb15773c09a715f05e1be09e3e1895e7be6628e3d590eebb33b7be0c", func := "calx/calxlaw03.SampleBins", spec := "sampleBins", unfollowed := true, recurses := true, apart := false, narrowed := true }
def SampleBinsUptoSaid : Prop := sampleBinsUptoRow.holds Try.pinned (OpenSpec.upto sampleBinsSpec)

end Rows
end Go.Proofs.Ytepfgdfahinpkaa
