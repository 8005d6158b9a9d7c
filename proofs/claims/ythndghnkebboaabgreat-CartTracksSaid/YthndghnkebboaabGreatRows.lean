/-
  No cell of these rows narrows 'for every input' (looked for: loops, veiled, ifaces, maps, wideKeys, modest, calm, conditions, laid).
  DERIVED. THE GIVEN ROWS OF THIS SEAT. 2 by the template 'for every input the law returns true; each argument reads behind the call as it read before'; 0 by the template 'total and deterministic' (their statements: YthndghnkebboaabGreatTotals.lean).
  GIVEN WITH THE SEED: the statements are not yours to turn. If you find one false, say at which input.
  Laid BY PROGRAM, IN A SANDBOX (cutbox-rows.mjs): the forced cells as the released guide's own fill.sh prints them over the translation 7bb9f575b14bf0e4… (all of the seat's roots in one cut). By AI agents, Wed Nov 11 2026. No macro, syntax, notation, axiom, sorry.
-/
import Derived.Test.YthndghnkebboaabGreatChecked
import GoSem.Claim
import GoSem.ClaimJoined
import GoSem.ClaimMapViews
import Derived.JoinedTies
import Derived.KernelRfl
namespace Go.Proofs.YthndghnkebboaabGreat
/- THE CELL 'sum', in the pinned program and in every row, IS THE sha256 OF THE DUMP (.gsa) THAT YthndghnkebboaabGreatProg.lean LOADS. Nothing in Lean hashes anything: it is a label: what it is worth is what the hold of that sum in a sandbox is worth. -/
noncomputable def Tryz.pinned : Pinned := { name := "ythndghnkebboaabgreat", sum := "7bb9f575b14bf0e4035391959f696232fc9a4d387adad3ce18dc9bfb2faeecf4", checked := Tryz.checked }
namespace Rows
def none {H : Type} : Left H := { results := [], args := [] }

/-- 'calxlaw05.CartShuts': WHATEVER THE INPUT: true; the input reads as it did. -/
def cartShutsSpec : ChangeSpec := { name := "cartShuts", fn := fun _ => fun
  | [d1, d2, d3, d4, d5, d6, d7] => { results := [.lit (.bool true)], args := [d1, d2, d3, d4, d5, d6, d7] }
  | _ => none }
def cartShutsRow : OpenClaim := { program := "ythndghnkebboaabgreat", sum := "7bb9f575b14bf0e4035391959f696232fc9a4d387adad3ce18dc9bfb2faeecf4", func := "calx/calxlaw05.CartShuts", spec := "cartShuts", unfollowed := true, recurses := true, plainKeys := false, apart := false }
def CartShutsSaid : Prop := cartShutsRow.holds Tryz.pinned (OpenSpec.ofChange cartShutsSpec)

/-- ITS FALSE NEIGHBOUR: 'it returns false'. Refute it at one input. -/
def cartShutsWrong : ChangeSpec := { name := "cartShuts", fn := fun _ => fun
  | [d1, d2, d3, d4, d5, d6, d7] => { results := [.lit (.bool false)], args := [d1, d2, d3, d4, d5, d6, d7] }
  | _ => none }
def CartShutsWrongFalsely : Prop := cartShutsRow.holds Tryz.pinned (OpenSpec.ofChange cartShutsWrong)

/-- 'calxlaw05.CartTracks': WHATEVER THE INPUT: true; the input reads as it did. -/
def cartTracksSpec : ChangeSpec := { name := "cartTracks", fn := fun _ => fun
  | [d1, d2, d3, d4, d5] => { results := [.lit (.bool true)], args := [d1, d2, d3, d4, d5] }
  | _ => none }
def cartTracksRow : OpenClaim := { program := "ythndghnkebboaabgreat", sum := "7bb9f575b14bf0e4035391959f696232fc9a4d387adad3ce18dc9bfb2faeecf4", func := "calx/calxlaw05.CartTracks", spec := "cartTracks", unfollowed := true, recurses := true, plainKeys := false, apart := false }
def CartTracksSaid : Prop := cartTracksRow.holds Tryz.pinned (OpenSpec.ofChange cartTracksSpec)

/-- ITS FALSE NEIGHBOUR: 'it returns false'. Refute it at one input. -/
def cartTracksWrong : ChangeSpec := { name := "cartTracks", fn := fun _ => fun
  | [d1, d2, d3, d4, d5] => { results := [.lit (.bool false)], args := [d1, d2, d3, d4, d5] }
  | _ => none }
def CartTracksWrongFalsely : Prop := cartTracksRow.holds Tryz.pinned (OpenSpec.ofChange cartTracksWrong)

/- THE SECOND FORM. 'bulk': how many values and letters a reading holds, each counted each time it is reached (what is shared counts as often as it is met; a slice's spare places count too). A statement '..UptoSaid' is the law's where the arguments, and the package variables that the reading takes, are together of bulk at most 1048576: NARROWER than '..Said'. Prove '..Said' where nothing that the law and all that it calls make is longer than what came in: it says more and counts as full. Else prove '..UptoSaid'. A law counts once. -/
mutual
def uptoBulk {H : Type} : DataW H → Nat
  | .lit (.string bytes) => bytes.length + 1
  | .lit _ => 1
  | .nil => 1
  | .ptr d => uptoBulk d + 1
  | .slice elems spare => uptoBulkAll elems + uptoBulkAll spare + 1
  | .agg parts => uptoBulkAll parts + 1
  | .iface _ d => uptoBulk d + 1
  | .map entries => uptoBulkEntries entries + 1
  | .held _ => 1
def uptoBulkAll {H : Type} : List (DataW H) → Nat
  | [] => 0
  | d :: r => uptoBulk d + uptoBulkAll r
def uptoBulkEntries {H : Type} : List (Lit × DataW H) → Nat
  | [] => 0
  | x :: r => uptoBulkEntry x + uptoBulkEntries r
def uptoBulkEntry {H : Type} : Lit × DataW H → Nat
  | (.string bytes, d) => bytes.length + uptoBulk d + 1
  | (_, d) => uptoBulk d + 1
 end
def uptoSmall : (H : Type) → List (DataW H) → Bool := fun _ ds => decide (uptoBulkAll ds ≤ 1048576)
def OpenSpec.upto (s : _root_.Go.ChangeSpec) : _root_.Go.OpenSpec := { _root_.Go.OpenSpec.ofChange s with cond := some uptoSmall }

/-- 'calxlaw05.CartShuts', WHERE WHAT IT READS IS OF BULK AT MOST 1048576: true; the input reads as it did. -/
def cartShutsUptoRow : OpenClaim := { program := "ythndghnkebboaabgreat", sum := "7bb9f575b14bf0e4035391959f696232fc9a4d387adad3ce18dc9bfb2faeecf4", func := "calx/calxlaw05.CartShuts", spec := "cartShuts", unfollowed := true, recurses := true, plainKeys := false, apart := false, narrowed := true }
def CartShutsUptoSaid : Prop := cartShutsUptoRow.holds Tryz.pinned (OpenSpec.upto cartShutsSpec)

/-- 'calxlaw05.CartTracks', WHERE WHAT IT READS IS OF BULK AT MOST 1048576: true; the input reads as it did. -/
def cartTracksUptoRow : OpenClaim := { program := "ythndghnkebboaabgreat", sum := "7bb9f575b14bf0e4035391959f696232fc9a4d387adad3ce18dc9bfb2faeecf4", func := "calx/calxlaw05.CartTracks", spec := "cartTracks", unfollowed := true, recurses := true, plainKeys := false, apart := false, narrowed := true }
def CartTracksUptoSaid : Prop := cartTracksUptoRow.holds Tryz.pinned (OpenSpec.upto cartTracksSpec)

end Rows
end Go.Proofs.YthndghnkebboaabGreat
