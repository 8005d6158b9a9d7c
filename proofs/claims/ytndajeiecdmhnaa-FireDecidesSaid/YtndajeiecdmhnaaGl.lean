/- Words for walks: a loop over an iterator's function, from the loop's side. -/
import Derived.Test.YtndajeiecdmhnaaGi
import Derived.RangeFuncLeaves
import Derived.RangeFuncFrom
namespace Go.Proofs.Ytndajeiecdmhnaa
open Go.RowKit (Below)

/-- The blocks bs hold what they held. -/
def KpB (bs : List Nat) (A B : World) : Prop := ∀ b ∈ bs, B.heap[b]? = A.heap[b]?
/-- **What an iterator's function promises**: it hands over the list's elements, one behind the other. -/
def SeqX (P : Program) (g : Nat) (caps : List Value) {α : Type} (enc : α → List Value) (bs : List Nat) (xs : List α) (w : World) : Prop :=
  ∀ (l : Nat) (J : Nat → World → Prop) (Jx : World → Prop) (W : World), Below w.heap.size w W → AbidesFrom W.heap.size J → AbidesFrom W.heap.size (fun (_ : Unit) => Jx) →
    (∀ i x W1, xs[i]? = some x → J i W1 → YieldAt (Fw none) 6 P l (enc x).toArray W1 fun e W' => (e = .returned (.bool true) ∧ J (i + 1) W' ∧ KpB bs W1 W') ∨ (e = .returned (.bool false) ∧ Jx W')) →
    J 0 W → CallsIn (Fw none) 7 P g (#[.func (.yield l) #[] #[]] ++ caps.toArray) W fun e W' => (∃ v, e = .returned v) ∧ (J xs.length W' ∨ Jx W')
theorem SeqX.later {P : Program} {g : Nat} {caps : List Value} {α : Type} {enc : α → List Value} {bs : List Nat} {xs : List α} {w w' : World} (h : SeqX P g caps enc bs xs w) (hb : Below w.heap.size w w') : SeqX P g caps enc bs xs w' :=
  fun l J Jx W hW => h l J Jx W (hb.trans (hW.mono hb.size))

section
variable {r : Option Nat} {n : Nat} {P : Program} {Q : Exit → Act → World → Prop} {w0 : World} {L : List Res} {m : Nat} {tm : Nat → Value} {d : List Deferred}

/-- The piece for the rounds' deferred calls; the loop's record. -/
def dfR (D : Nat) : Res := blk D (.deferred (some []))
def lpR (l : Nat) (rec : Loop) : Res := blk l (.loop rec)
/-- How a round's body ends. -/
def rgQ {S T : Type} (w0 : World) (D l : Nat) (rec : Loop) (I : S → List Res → Prop) (J : T → Exit → List Res → Prop) (st : S ⊕ T) : Exit → Act → World → Prop := fun e _ W =>
  match st with
  | .inl s' => e = .normal ∧ ∃ L', I s' L' ∧ Ext w0 W (L' ++ [dfR D, lpR l { rec with state := .busy }])
  | .inr t => ∃ L', J t e L' ∧ Ext w0 W (L' ++ [dfR D, lpR l { rec with state := .busy }])
theorem ex_rnext {S T : Type} {I : S → List Res → Prop} {J : T → Exit → List Res → Prop} {D l : Nat} {rec : Loop} {s' : S} (L' : List Res) (h : I s' L') : EX (rgQ w0 D l rec I J (.inl s')) .normal w0 (L' ++ [dfR D, lpR l { rec with state := .busy }]) m tm d :=
  fun _ hW => ⟨rfl, L', h, hW⟩
theorem ex_rstop {S T : Type} {I : S → List Res → Prop} {J : T → Exit → List Res → Prop} {D l : Nat} {rec : Loop} {t : T} {e : Exit} (L' : List Res) (h : J t e L') : EX (rgQ w0 D l rec I J (.inr t)) e w0 (L' ++ [dfR D, lpR l { rec with state := .busy }]) m tm d :=
  fun _ hW => ⟨L', h, hW⟩
/-- Between the assignment and the body. -/
def asgQ (n : Nat) (P : Program) (l : Nat) (body : Code) (Q : Exit → Act → World → Prop) : Exit → Act → World → Prop :=
  Exit.then (fun a₁ w₁ => ∃ w₂, (Instr.beginRound l).run P w₁ = .ok () w₂ ∧ body.wpIn (Fw (some l)) n P Q a₁ w₂) (fun _ _ _ => False)
theorem ex_begin {body : Code} {l : Nat} {rec : Loop} (i : Nat) (hL : L[i]? = some (lpR l rec)) (hr : rec.state = .ready) (h : CX (some l) n P body Q w0 (L.set i (lpR l { rec with state := .busy })) m tm d) : EX (asgQ n P l body Q) .normal w0 L m tm d := fun W hW => by
  have hl : W.heap[l]? = some (.loop rec) := hW.mem hL
  have hlt : l < W.heap.size := lt_of_block hl
  refine ⟨_, run_beginRound hl hr, h _ ?_⟩
  refine hW.set hL (lpR l { rec with state := .busy }) (World.putObj_heap_same hlt) rfl rfl rfl (by simp [World.putObj]) (fun b hb hn => World.putObj_heap_other (fun e => hn e)) (fun b hb => .inl hb)

/-- A piece's blocks lay already, or are no walk's objects. -/
def Cy (B : Nat) (p : Res) : Prop := ∀ W b, p.holds W → p.dom b → b < B ∨ ∃ o : Obj, W.heap[b]? = some o ∧ o.isWalk = false
theorem Cy.blk {B b : Nat} {o : Obj} (h : o.isWalk = false) : Cy B (blk b o) := fun W c hh hc => by
  have hc' : c = b := hc
  subst hc'
  exact .inr ⟨o, hh, h⟩
theorem Cy.cells {B b : Nat} {e : TypeId} {cs : List Value} : Cy B (cellsR b e cs) := Cy.blk rfl
theorem Cy.row {B : Nat} {A : Option Addr} {c : Nat} {e : TypeId} {sz n : Nat} {cs : List Value} : Cy B (rowR A c e sz n cs) := fun W b hh hb => by
  obtain ⟨a, rfl, rfl⟩ := hb
  have hh' : W.ownsRow 0 e sz (.slice (some a) n c) n cs := hh
  rcases hh'.2 with ⟨h2, _⟩ | ⟨g', cap, cur, hv, _, hg, _⟩
  · cases h2
  · simp only [Value.slice.injEq, Option.some.injEq] at hv
    obtain ⟨rfl, _, _⟩ := hv
    exact .inr ⟨_, hg, rfl⟩
def CyL (B : Nat) (L : List Res) : Prop := ∀ p ∈ L, Cy B p
theorem CyL.nil {B : Nat} : CyL B [] := fun p hp => by cases hp
theorem CyL.cons {B : Nat} {p : Res} {L : List Res} (h : Cy B p) (h' : CyL B L) : CyL B (p :: L) := fun q hq => by
  rcases List.mem_cons.1 hq with rfl | hq
  · exact h
  · exact h' q hq
theorem Ext.abides {W W' : World} {B : Nat} {row : Option Nat} (h : Ext w0 W L) (hc : CyL B L) (hg : W.grownBy W' row) (hr : ∀ x, row = some x → w0.heap.size ≤ x ∧ B ≤ x ∧ ∃ o : Obj, W.heap[x]? = some o ∧ o.isWalk = true) : Ext w0 W' L := by
  refine h.keep (h.below.trans ⟨hg.os, hg.tape, hg.output, hg.size, fun k hk => hg.block k (Nat.lt_of_lt_of_le hk h.size) (fun e => ?_)⟩) hg.size (fun i p hp b hd => hg.block b (p.inb W (h.all i p hp) b hd) (fun e => ?_))
  · have := (hr k e.symm).1
    omega
  · obtain ⟨_, h2, o, ho, hw⟩ := hr b e.symm
    rcases hc p (List.mem_of_getElem? hp) W b (h.all i p hp) hd with h3 | ⟨o', ho', hw'⟩
    · omega
    · rw [ho] at ho'; cases ho'; rw [hw] at hw'; cases hw'

theorem getElem?_app1 {L : List Res} {p q : Res} : (L ++ [p, q])[L.length + 1]? = some q := by simp
theorem set_app1 {L : List Res} {p q q' : Res} : (L ++ [p, q]).set (L.length + 1) q' = L ++ [p, q'] := by
  rw [List.set_append_right _ _ (by omega)]
  simp
theorem Ext.putLoop {W : World} {p : Res} {l : Nat} {rec rec' : Loop} (h : Ext w0 W (L ++ [p, lpR l rec])) : Ext w0 (W.putObj l (.loop rec')) (L ++ [p, lpR l rec']) := by
  have hl : W.heap[l]? = some (.loop rec) := h.mem getElem?_app1
  have hlt : l < W.heap.size := lt_of_block hl
  have := h.set getElem?_app1 (lpR l rec') (W' := W.putObj l (.loop rec')) (World.putObj_heap_same hlt) rfl rfl rfl (by simp [World.putObj]) (fun b hb hn => World.putObj_heap_other (fun e => hn e)) (fun b hb => .inl hb)
  rw [set_app1] at this
  exact this

end

end Go.Proofs.Ytndajeiecdmhnaa
