/-
  No cell of these rows narrows 'for every input' (looked for: loops, veiled, ifaces, maps, wideKeys, modest, calm, conditions, laid).
  DERIVED. THE GIVEN ROWS OF THIS SEAT. 13 by the template 'for every input the law returns true; each argument reads behind the call as it read before'; 0 by the template 'total and deterministic' (their statements: YthndghnkebboaaaGreatTotals.lean).
  GIVEN WITH THE SEED: the statements are not yours to turn. If you find one false, say at which input.
  Laid BY PROGRAM, IN A SANDBOX (cutbox-rows.mjs): the forced cells as the released guide's own fill.sh prints them over the translation 7405e120af3dcf05… (all of the seat's roots in one cut). By AI agents, Wed Nov 11 2026. No macro, syntax, notation, axiom, sorry.
-/
import Derived.Test.YthndghnkebboaaaGreatChecked
import GoSem.Claim
import GoSem.ClaimJoined
import GoSem.ClaimMapViews
import Derived.JoinedTies
import Derived.KernelRfl
namespace Go.Proofs.YthndghnkebboaaaGreat
/- THE CELL 'sum', in the pinned program and in every row, IS THE sha256 OF THE DUMP (.gsa) THAT YthndghnkebboaaaGreatProg.lean LOADS. Nothing in Lean hashes anything: it is a label: what it is worth is what the hold of that sum in a sandbox is worth. -/
noncomputable def Tryz.pinned : Pinned := { name := "ythndghnkebboaaagreat", sum := "7405e120af3dcf05adefc40376eb58af509fb80b8308f738e79c1fe8d5b70773", checked := Tryz.checked }
namespace Rows
def none {H : Type} : Left H := { results := [], args := [] }

/-- 'calxlaw05.CartWaits': WHATEVER THE INPUT: true; the input reads as it did. -/
def cartWaitsSpec : ChangeSpec := { name := "cartWaits", fn := fun _ => fun
  | [d1, d2, d3, d4, d5, d6, d7] => { results := [.lit (.bool true)], args := [d1, d2, d3, d4, d5, d6, d7] }
  | _ => none }
def cartWaitsRow : OpenClaim := { program := "ythndghnkebboaaagreat", sum := "7405e120af3dcf05adefc40376eb58af509fb80b8308f738e79c1fe8d5b70773", func := "calx/calxlaw05.CartWaits", spec := "cartWaits", unfollowed := true, recurses := true, plainKeys := false, apart := false }
def CartWaitsSaid : Prop := cartWaitsRow.holds Tryz.pinned (OpenSpec.ofChange cartWaitsSpec)

/-- ITS FALSE NEIGHBOUR: 'it returns false'. Refute it at one input. -/
def cartWaitsWrong : ChangeSpec := { name := "cartWaits", fn := fun _ => fun
  | [d1, d2, d3, d4, d5, d6, d7] => { results := [.lit (.bool false)], args := [d1, d2, d3, d4, d5, d6, d7] }
  | _ => none }
def CartWaitsWrongFalsely : Prop := cartWaitsRow.holds Tryz.pinned (OpenSpec.ofChange cartWaitsWrong)

/-- 'calxlaw05.CartBest': WHATEVER THE INPUT: true; the input reads as it did. -/
def cartBestSpec : ChangeSpec := { name := "cartBest", fn := fun _ => fun
  | [d1, d2, d3, d4, d5] => { results := [.lit (.bool true)], args := [d1, d2, d3, d4, d5] }
  | _ => none }
def cartBestRow : OpenClaim := { program := "ythndghnkebboaaagreat", sum := "7405e120af3dcf05adefc40376eb58af509fb80b8308f738e79c1fe8d5b70773", func := "calx/calxlaw05.CartBest", spec := "cartBest", unfollowed := true, recurses := true, plainKeys := false, apart := false }
def CartBestSaid : Prop := cartBestRow.holds Tryz.pinned (OpenSpec.ofChange cartBestSpec)

/-- ITS FALSE NEIGHBOUR: 'it returns false'. Refute it at one input. -/
def cartBestWrong : ChangeSpec := { name := "cartBest", fn := fun _ => fun
  | [d1, d2, d3, d4, d5] => { results := [.lit (.bool false)], args := [d1, d2, d3, d4, d5] }
  | _ => none }
def CartBestWrongFalsely : Prop := cartBestRow.holds Tryz.pinned (OpenSpec.ofChange cartBestWrong)

/-- 'calxlaw05.CartOrders': WHATEVER THE INPUT: true; the input reads as it did. -/
def cartOrdersSpec : ChangeSpec := { name := "cartOrders", fn := fun _ => fun
  | [d1, d2, d3] => { results := [.lit (.bool true)], args := [d1, d2, d3] }
  | _ => none }
def cartOrdersRow : OpenClaim := { program := "ythndghnkebboaaagreat", sum := "7405e120af3dcf05adefc40376eb58af509fb80b8308f738e79c1fe8d5b70773", func := "calx/calxlaw05.CartOrders", spec := "cartOrders", unfollowed := true, recurses := true, plainKeys := false, apart := false }
def CartOrdersSaid : Prop := cartOrdersRow.holds Tryz.pinned (OpenSpec.ofChange cartOrdersSpec)

/-- ITS FALSE NEIGHBOUR: 'it returns false'. Refute it at one input. -/
def cartOrdersWrong : ChangeSpec := { name := "cartOrders", fn := fun _ => fun
  | [d1, d2, d3] => { results := [.lit (.bool false)], args := [d1, d2, d3] }
  | _ => none }
def CartOrdersWrongFalsely : Prop := cartOrdersRow.holds Tryz.pinned (OpenSpec.ofChange cartOrdersWrong)

/-- 'calxlaw05.CartSure': WHATEVER THE INPUT: true; the input reads as it did. -/
def cartSureSpec : ChangeSpec := { name := "cartSure", fn := fun _ => fun
  | [d1, d2] => { results := [.lit (.bool true)], args := [d1, d2] }
  | _ => none }
def cartSureRow : OpenClaim := { program := "ythndghnkebboaaagreat", sum := "7405e120af3dcf05adefc40376eb58af509fb80b8308f738e79c1fe8d5b70773", func := "calx/calxlaw05.CartSure", spec := "cartSure", unfollowed := true, recurses := true, plainKeys := false, apart := false }
def CartSureSaid : Prop := cartSureRow.holds Tryz.pinned (OpenSpec.ofChange cartSureSpec)

/-- ITS FALSE NEIGHBOUR: 'it returns false'. Refute it at one input. -/
def cartSureWrong : ChangeSpec := { name := "cartSure", fn := fun _ => fun
  | [d1, d2] => { results := [.lit (.bool false)], args := [d1, d2] }
  | _ => none }
def CartSureWrongFalsely : Prop := cartSureRow.holds Tryz.pinned (OpenSpec.ofChange cartSureWrong)

/-- 'calxlaw05.CartMore': WHATEVER THE INPUT: true; the input reads as it did. -/
def cartMoreSpec : ChangeSpec := { name := "cartMore", fn := fun _ => fun
  | [d1, d2, d3, d4] => { results := [.lit (.bool true)], args := [d1, d2, d3, d4] }
  | _ => none }
def cartMoreRow : OpenClaim := { program := "ythndghnkebboaaagreat", sum := "7405e120af3dcf05adefc40376eb58af509fb80b8308f738e79c1fe8d5b70773", func := "calx/calxlaw05.CartMore", spec := "cartMore", unfollowed := true, recurses := true, plainKeys := false, apart := false }
def CartMoreSaid : Prop := cartMoreRow.holds Tryz.pinned (OpenSpec.ofChange cartMoreSpec)

/-- ITS FALSE NEIGHBOUR: 'it returns false'. Refute it at one input. -/
def cartMoreWrong : ChangeSpec := { name := "cartMore", fn := fun _ => fun
  | [d1, d2, d3, d4] => { results := [.lit (.bool false)], args := [d1, d2, d3, d4] }
  | _ => none }
def CartMoreWrongFalsely : Prop := cartMoreRow.holds Tryz.pinned (OpenSpec.ofChange cartMoreWrong)

/-- 'calxlaw05.CartCrowds': WHATEVER THE INPUT: true; the input reads as it did. -/
def cartCrowdsSpec : ChangeSpec := { name := "cartCrowds", fn := fun _ => fun
  | [d1, d2] => { results := [.lit (.bool true)], args := [d1, d2] }
  | _ => none }
def cartCrowdsRow : OpenClaim := { program := "ythndghnkebboaaagreat", sum := "7405e120af3dcf05adefc40376eb58af509fb80b8308f738e79c1fe8d5b70773", func := "calx/calxlaw05.CartCrowds", spec := "cartCrowds", unfollowed := true, recurses := true, plainKeys := false, apart := false }
def CartCrowdsSaid : Prop := cartCrowdsRow.holds Tryz.pinned (OpenSpec.ofChange cartCrowdsSpec)

/-- ITS FALSE NEIGHBOUR: 'it returns false'. Refute it at one input. -/
def cartCrowdsWrong : ChangeSpec := { name := "cartCrowds", fn := fun _ => fun
  | [d1, d2] => { results := [.lit (.bool false)], args := [d1, d2] }
  | _ => none }
def CartCrowdsWrongFalsely : Prop := cartCrowdsRow.holds Tryz.pinned (OpenSpec.ofChange cartCrowdsWrong)

/-- 'calxlaw05.CartServes': WHATEVER THE INPUT: true; the input reads as it did. -/
def cartServesSpec : ChangeSpec := { name := "cartServes", fn := fun _ => fun
  | [d1, d2] => { results := [.lit (.bool true)], args := [d1, d2] }
  | _ => none }
def cartServesRow : OpenClaim := { program := "ythndghnkebboaaagreat", sum := "7405e120af3dcf05adefc40376eb58af509fb80b8308f738e79c1fe8d5b70773", func := "calx/calxlaw05.CartServes", spec := "cartServes", unfollowed := true, recurses := true, plainKeys := false, apart := false }
def CartServesSaid : Prop := cartServesRow.holds Tryz.pinned (OpenSpec.ofChange cartServesSpec)

/-- ITS FALSE NEIGHBOUR: 'it returns false'. Refute it at one input. -/
def cartServesWrong : ChangeSpec := { name := "cartServes", fn := fun _ => fun
  | [d1, d2] => { results := [.lit (.bool false)], args := [d1, d2] }
  | _ => none }
def CartServesWrongFalsely : Prop := cartServesRow.holds Tryz.pinned (OpenSpec.ofChange cartServesWrong)

/-- 'calxlaw05.CartPlans': WHATEVER THE INPUT: true; the input reads as it did. -/
def cartPlansSpec : ChangeSpec := { name := "cartPlans", fn := fun _ => fun
  | [d1, d2, d3, d4] => { results := [.lit (.bool true)], args := [d1, d2, d3, d4] }
  | _ => none }
def cartPlansRow : OpenClaim := { program := "ythndghnkebboaaagreat", sum := "7405e120af3dcf05adefc40376eb58af509fb80b8308f738e79c1fe8d5b70773", func := "calx/calxlaw05.CartPlans", spec := "cartPlans", unfollowed := true, recurses := true, plainKeys := false, apart := false }
def CartPlansSaid : Prop := cartPlansRow.holds Tryz.pinned (OpenSpec.ofChange cartPlansSpec)

/-- ITS FALSE NEIGHBOUR: 'it returns false'. Refute it at one input. -/
def cartPlansWrong : ChangeSpec := { name := "cartPlans", fn := fun _ => fun
  | [d1, d2, d3, d4] => { results := [.lit (.bool false)], args := [d1, d2, d3, d4] }
  | _ => none }
def CartPlansWrongFalsely : Prop := cartPlansRow.holds Tryz.pinned (OpenSpec.ofChange cartPlansWrong)

/-- 'calxlaw05.CartSooner': WHATEVER THE INPUT: true; the input reads as it did. -/
def cartSoonerSpec : ChangeSpec := { name := "cartSooner", fn := fun _ => fun
  | [d1, d2, d3, d4, d5, d6, d7] => { results := [.lit (.bool true)], args := [d1, d2, d3, d4, d5, d6, d7] }
  | _ => none }
def cartSoonerRow : OpenClaim := { program := "ythndghnkebboaaagreat", sum := "7405e120af3dcf05adefc40376eb58af509fb80b8308f738e79c1fe8d5b70773", func := "calx/calxlaw05.CartSooner", spec := "cartSooner", unfollowed := true, recurses := true, plainKeys := false, apart := false }
def CartSoonerSaid : Prop := cartSoonerRow.holds Tryz.pinned (OpenSpec.ofChange cartSoonerSpec)

/-- ITS FALSE NEIGHBOUR: 'it returns false'. Refute it at one input. -/
def cartSoonerWrong : ChangeSpec := { name := "cartSooner", fn := fun _ => fun
  | [d1, d2, d3, d4, d5, d6, d7] => { results := [.lit (.bool false)], args := [d1, d2, d3, d4, d5, d6, d7] }
  | _ => none }
def CartSoonerWrongFalsely : Prop := cartSoonerRow.holds Tryz.pinned (OpenSpec.ofChange cartSoonerWrong)

/-- 'calxlaw05.CartTimes': WHATEVER THE INPUT: true; the input reads as it did. -/
def cartTimesSpec : ChangeSpec := { name := "cartTimes", fn := fun _ => fun
  | [d1, d2, d3, d4, d5, d6] => { results := [.lit (.bool true)], args := [d1, d2, d3, d4, d5, d6] }
  | _ => none }
def cartTimesRow : OpenClaim := { program := "ythndghnkebboaaagreat", sum := "7405e120af3dcf05adefc40376eb58af509fb80b8308f738e79c1fe8d5b70773", func := "calx/calxlaw05.CartTimes", spec := "cartTimes", unfollowed := true, recurses := true, plainKeys := false, apart := false }
def CartTimesSaid : Prop := cartTimesRow.holds Tryz.pinned (OpenSpec.ofChange cartTimesSpec)

/-- ITS FALSE NEIGHBOUR: 'it returns false'. Refute it at one input. -/
def cartTimesWrong : ChangeSpec := { name := "cartTimes", fn := fun _ => fun
  | [d1, d2, d3, d4, d5, d6] => { results := [.lit (.bool false)], args := [d1, d2, d3, d4, d5, d6] }
  | _ => none }
def CartTimesWrongFalsely : Prop := cartTimesRow.holds Tryz.pinned (OpenSpec.ofChange cartTimesWrong)

/-- 'calxlaw05.CartLater': WHATEVER THE INPUT: true; the input reads as it did. -/
def cartLaterSpec : ChangeSpec := { name := "cartLater", fn := fun _ => fun
  | [d1, d2, d3] => { results := [.lit (.bool true)], args := [d1, d2, d3] }
  | _ => none }
def cartLaterRow : OpenClaim := { program := "ythndghnkebboaaagreat", sum := "7405e120af3dcf05adefc40376eb58af509fb80b8308f738e79c1fe8d5b70773", func := "calx/calxlaw05.CartLater", spec := "cartLater", unfollowed := true, recurses := true, plainKeys := false, apart := false }
def CartLaterSaid : Prop := cartLaterRow.holds Tryz.pinned (OpenSpec.ofChange cartLaterSpec)

/-- ITS FALSE NEIGHBOUR: 'it returns false'. Refute it at one input. -/
def cartLaterWrong : ChangeSpec := { name := "cartLater", fn := fun _ => fun
  | [d1, d2, d3] => { results := [.lit (.bool false)], args := [d1, d2, d3] }
  | _ => none }
def CartLaterWrongFalsely : Prop := cartLaterRow.holds Tryz.pinned (OpenSpec.ofChange cartLaterWrong)

/-- 'calxlaw05.CartFronts': WHATEVER THE INPUT: true; the input reads as it did. -/
def cartFrontsSpec : ChangeSpec := { name := "cartFronts", fn := fun _ => fun
  | [d1, d2, d3, d4, d5, d6] => { results := [.lit (.bool true)], args := [d1, d2, d3, d4, d5, d6] }
  | _ => none }
def cartFrontsRow : OpenClaim := { program := "ythndghnkebboaaagreat", sum := "7405e120af3dcf05adefc40376eb58af509fb80b8308f738e79c1fe8d5b70773", func := "calx/calxlaw05.CartFronts", spec := "cartFronts", unfollowed := true, recurses := true, plainKeys := false, apart := false }
def CartFrontsSaid : Prop := cartFrontsRow.holds Tryz.pinned (OpenSpec.ofChange cartFrontsSpec)

/-- ITS FALSE NEIGHBOUR: 'it returns false'. Refute it at one input. -/
def cartFrontsWrong : ChangeSpec := { name := "cartFronts", fn := fun _ => fun
  | [d1, d2, d3, d4, d5, d6] => { results := [.lit (.bool false)], args := [d1, d2, d3, d4, d5, d6] }
  | _ => none }
def CartFrontsWrongFalsely : Prop := cartFrontsRow.holds Tryz.pinned (OpenSpec.ofChange cartFrontsWrong)

/-- 'calxlaw05.CartFrontier': WHATEVER THE INPUT: true; the input reads as it did. -/
def cartFrontierSpec : ChangeSpec := { name := "cartFrontier", fn := fun _ => fun
  | [d1, d2, d3, d4, d5, d6, d7, d8] => { results := [.lit (.bool true)], args := [d1, d2, d3, d4, d5, d6, d7, d8] }
  | _ => none }
def cartFrontierRow : OpenClaim := { program := "ythndghnkebboaaagreat", sum := "7405e120af3dcf05adefc40376eb58af509fb80b8308f738e79c1fe8d5b70773", func := "calx/calxlaw05.CartFrontier", spec := "cartFrontier", unfollowed := true, recurses := true, plainKeys := false, apart := false }
def CartFrontierSaid : Prop := cartFrontierRow.holds Tryz.pinned (OpenSpec.ofChange cartFrontierSpec)

/-- ITS FALSE NEIGHBOUR: 'it returns false'. Refute it at one input. -/
def cartFrontierWrong : ChangeSpec := { name := "cartFrontier", fn := fun _ => fun
  | [d1, d2, d3, d4, d5, d6, d7, d8] => { results := [.lit (.bool false)], args := [d1, d2, d3, d4, d5, d6, d7, d8] }
  | _ => none }
def CartFrontierWrongFalsely : Prop := cartFrontierRow.holds Tryz.pinned (OpenSpec.ofChange cartFrontierWrong)

/- THE SECOND FORM. 'bulk': how many values and letters a reading holds, each counted each time it is reached (what is shared counts as often as it is met; a slice's spare places count too). A statement '..UptoSaid' is the law's where the arguments, and the package variables that the reading takes, are together of bulk at most 1048576: NARROWER than '..Said'. Prove '..Said' where nothing that the law and all that it calls make is longer than what came in: it says more and counts as full. Else prove '..UptoSaid'. A law counts once. -/
mutual
def uptoBulk {H : Type} : DataW H → Nat
  | .lit (.string bytes) => bytes.length + 1
  | .lit _ => 1
  | .nil => 1
  | .ptr d => uptoBulk d + 1
  | .slice elems spare => uptoBulkAll elems + uptoBulkAll spare + 1
  | .agg parts => uptoBulkAll parts + 1
  | .iface _ d => uptoBulk d + 1
  | .map entries => uptoBulkEntries entries + 1
  | .held _ => 1
def uptoBulkAll {H : Type} : List (DataW H) → Nat
  | [] => 0
  | d :: r => uptoBulk d + uptoBulkAll r
def uptoBulkEntries {H : Type} : List (Lit × DataW H) → Nat
  | [] => 0
  | x :: r => uptoBulkEntry x + uptoBulkEntries r
def uptoBulkEntry {H : Type} : Lit × DataW H → Nat
  | (.string bytes, d) => bytes.length + uptoBulk d + 1
  | (_, d) => uptoBulk d + 1
 end
def uptoSmall : (H : Type) → List (DataW H) → Bool := fun _ ds => decide (uptoBulkAll ds ≤ 1048576)
def OpenSpec.upto (s : _root_.Go.ChangeSpec) : _root_.Go.OpenSpec := { _root_.Go.OpenSpec.ofChange s with cond := some uptoSmall }

/-- 'calxlaw05.CartWaits', WHERE WHAT IT READS IS OF BULK AT MOST 1048576: true; the input reads as it did. -/
def cartWaitsUptoRow : OpenClaim := { program := "ythndghnkebboaaagreat", sum := "7405e120af3dcf05adefc40376eb58af509fb80b8308f738e79c1fe8d5b70773", func := "calx/calxlaw05.CartWaits", spec := "cartWaits", unfollowed := true, recurses := true, plainKeys := false, apart := false, narrowed := true }
def CartWaitsUptoSaid : Prop := cartWaitsUptoRow.holds Tryz.pinned (OpenSpec.upto cartWaitsSpec)

/-- 'calxlaw05.CartBest', WHERE WHAT IT READS IS OF BULK AT MOST 1048576: true; the input reads as it did. -/
def cartBestUptoRow : OpenClaim := { program := "ythndghnkebboaaagreat", sum := "7405e120af3dcf05adefc40376eb58af509fb80b8308f738e79c1fe8d5b70773", func := "calx/calxlaw05.CartBest", spec := "cartBest", unfollowed := true, recurses := true, plainKeys := false, apart := false, narrowed := true }
def CartBestUptoSaid : Prop := cartBestUptoRow.holds Tryz.pinned (OpenSpec.upto cartBestSpec)

/-- 'calxlaw05.CartOrders', WHERE WHAT IT READS IS OF BULK AT MOST 1048576: true; the input reads as it did. -/
def cartOrdersUptoRow : OpenClaim := { program := "ythndghnkebboaaagreat", sum := "7405e120af3dcf05adefc40376eb58af509fb80b8308f738e79c1fe8d5b70773", func := "calx/calxlaw05.CartOrders", spec := "cartOrders", unfollowed := true, recurses := true, plainKeys := false, apart := false, narrowed := true }
def CartOrdersUptoSaid : Prop := cartOrdersUptoRow.holds Tryz.pinned (OpenSpec.upto cartOrdersSpec)

/-- 'calxlaw05.CartSure', WHERE WHAT IT READS IS OF BULK AT MOST 1048576: true; the input reads as it did. -/
def cartSureUptoRow : OpenClaim := { program := "ythndghnkebboaaagreat", sum := "7405e120af3dcf05adefc40376eb58af509fb80b8308f738e79c1fe8d5b70773", func := "calx/calxlaw05.CartSure", spec := "cartSure", unfollowed := true, recurses := true, plainKeys := false, apart := false, narrowed := true }
def CartSureUptoSaid : Prop := cartSureUptoRow.holds Tryz.pinned (OpenSpec.upto cartSureSpec)

/-- 'calxlaw05.CartMore', WHERE WHAT IT READS IS OF BULK AT MOST 1048576: true; the input reads as it did. -/
def cartMoreUptoRow : OpenClaim := { program := "ythndghnkebboaaagreat", sum := "7405e120af3dcf05adefc40376eb58af509fb80b8308f738e79c1fe8d5b70773", func := "calx/calxlaw05.CartMore", spec := "cartMore", unfollowed := true, recurses := true, plainKeys := false, apart := false, narrowed := true }
def CartMoreUptoSaid : Prop := cartMoreUptoRow.holds Tryz.pinned (OpenSpec.upto cartMoreSpec)

/-- 'calxlaw05.CartCrowds', WHERE WHAT IT READS IS OF BULK AT MOST 1048576: true; the input reads as it did. -/
def cartCrowdsUptoRow : OpenClaim := { program := "ythndghnkebboaaagreat", sum := "7405e120af3dcf05adefc40376eb58af509fb80b8308f738e79c1fe8d5b70773", func := "calx/calxlaw05.CartCrowds", spec := "cartCrowds", unfollowed := true, recurses := true, plainKeys := false, apart := false, narrowed := true }
def CartCrowdsUptoSaid : Prop := cartCrowdsUptoRow.holds Tryz.pinned (OpenSpec.upto cartCrowdsSpec)

/-- 'calxlaw05.CartServes', WHERE WHAT IT READS IS OF BULK AT MOST 1048576: true; the input reads as it did. -/
def cartServesUptoRow : OpenClaim := { program := "ythndghnkebboaaagreat", sum := "7405e120af3dcf05adefc40376eb58af509fb80b8308f738e79c1fe8d5b70773", func := "calx/calxlaw05.CartServes", spec := "cartServes", unfollowed := true, recurses := true, plainKeys := false, apart := false, narrowed := true }
def CartServesUptoSaid : Prop := cartServesUptoRow.holds Tryz.pinned (OpenSpec.upto cartServesSpec)

/-- 'calxlaw05.CartPlans', WHERE WHAT IT READS IS OF BULK AT MOST 1048576: true; the input reads as it did. -/
def cartPlansUptoRow : OpenClaim := { program := "ythndghnkebboaaagreat", sum := "7405e120af3dcf05adefc40376eb58af509fb80b8308f738e79c1fe8d5b70773", func := "calx/calxlaw05.CartPlans", spec := "cartPlans", unfollowed := true, recurses := true, plainKeys := false, apart := false, narrowed := true }
def CartPlansUptoSaid : Prop := cartPlansUptoRow.holds Tryz.pinned (OpenSpec.upto cartPlansSpec)

/-- 'calxlaw05.CartSooner', WHERE WHAT IT READS IS OF BULK AT MOST 1048576: true; the input reads as it did. -/
def cartSoonerUptoRow : OpenClaim := { program := "ythndghnkebboaaagreat", sum := "7405e120af3dcf05adefc40376eb58af509fb80b8308f738e79c1fe8d5b70773", func := "calx/calxlaw05.CartSooner", spec := "cartSooner", unfollowed := true, recurses := true, plainKeys := false, apart := false, narrowed := true }
def CartSoonerUptoSaid : Prop := cartSoonerUptoRow.holds Tryz.pinned (OpenSpec.upto cartSoonerSpec)

/-- 'calxlaw05.CartTimes', WHERE WHAT IT READS IS OF BULK AT MOST 1048576: true; the input reads as it did. -/
def cartTimesUptoRow : OpenClaim := { program := "ythndghnkebboaaagreat", sum := "7405e120af3dcf05adefc40376eb58af509fb80b8308f738e79c1fe8d5b70773", func := "calx/calxlaw05.CartTimes", spec := "cartTimes", unfollowed := true, recurses := true, plainKeys := false, apart := false, narrowed := true }
def CartTimesUptoSaid : Prop := cartTimesUptoRow.holds Tryz.pinned (OpenSpec.upto cartTimesSpec)

/-- 'calxlaw05.CartLater', WHERE WHAT IT READS IS OF BULK AT MOST 1048576: true; the input reads as it did. -/
def cartLaterUptoRow : OpenClaim := { program := "ythndghnkebboaaagreat", sum := "7405e120af3dcf05adefc40376eb58af509fb80b8308f738e79c1fe8d5b70773", func := "calx/calxlaw05.CartLater", spec := "cartLater", unfollowed := true, recurses := true, plainKeys := false, apart := false, narrowed := true }
def CartLaterUptoSaid : Prop := cartLaterUptoRow.holds Tryz.pinned (OpenSpec.upto cartLaterSpec)

/-- 'calxlaw05.CartFronts', WHERE WHAT IT READS IS OF BULK AT MOST 1048576: true; the input reads as it did. -/
def cartFrontsUptoRow : OpenClaim := { program := "ythndghnkebboaaagreat", sum := "7405e120af3dcf05adefc40376eb58af509fb80b8308f738e79c1fe8d5b70773", func := "calx/calxlaw05.CartFronts", spec := "cartFronts", unfollowed := true, recurses := true, plainKeys := false, apart := false, narrowed := true }
def CartFrontsUptoSaid : Prop := cartFrontsUptoRow.holds Tryz.pinned (OpenSpec.upto cartFrontsSpec)

/-- 'calxlaw05.CartFrontier', WHERE WHAT IT READS IS OF BULK AT MOST 1048576: true; the input reads as it did. -/
def cartFrontierUptoRow : OpenClaim := { program := "ythndghnkebboaaagreat", sum := "7405e120af3dcf05adefc40376eb58af509fb80b8308f738e79c1fe8d5b70773", func := "calx/calxlaw05.CartFrontier", spec := "cartFrontier", unfollowed := true, recurses := true, plainKeys := false, apart := false, narrowed := true }
def CartFrontierUptoSaid : Prop := cartFrontierUptoRow.holds Tryz.pinned (OpenSpec.upto cartFrontierSpec)

end Rows
end Go.Proofs.YthndghnkebboaaaGreat
