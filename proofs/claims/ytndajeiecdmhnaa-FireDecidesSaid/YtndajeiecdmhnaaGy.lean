/- Walks of regions that draw their order by the general law. -/
import Derived.Test.YtndajeiecdmhnaaGu
namespace Go.Proofs.Ytndajeiecdmhnaa
open Go.RowKit (Below)

section
variable {r : Option Nat} {n : Nat} {P : Program} {ops : Array Oper} {Q : Exit → Act → World → Prop} {w0 : World} {L : List Res} {m : Nat} {tm : Nat → Value} {d : List Deferred} {ξ : Nat → Xo}
variable {t : Tmp} {ty : TypeId} {pos : String} {af : Array Edge} {g : Option (Nat × Bool)} {os : List Oper} {s : Sd} {dd : Dyn} {ss : List Sd} {ds : List Dyn} {j : Nat}
def GX (r : Option Nat) (n : Nat) (P : Program) (ops : Array Oper) (Q : Exit → Act → World → Prop) (w0 : World) (ξ : Nat → Xo) (j : Nat) (os : List Oper) (ss : List Sd) (ds : List Dyn) (L : List Res) (m : Nat) (tm : Nat → Value) (d : List Deferred) : Prop :=
  GW r n P ops w0 ξ (fun L a => ∀ W, Ext w0 W L → Q .normal a W) j os ss ds L (act m tm d)
theorem cx_drawsG (A : List (List Nat)) (sd : List Sd) (dy : List Dyn) (base : Nat) {id : Nat} {l : List Oper} (hm : P.follows .mixedOrders = true) (hO : orderB l.toArray = true) (hC : chkG l.toArray A sd base = true) (hI : IndA A 0 sd dy) (hb : L.length = base)
    (h : ∀ ξ, GX r n P l.toArray Q w0 ξ 0 l sd dy L m tm d) : CX r n P (.region id l.toArray true) Q w0 L m tm d :=
  fun _ hW => wp_drawsG A sd dy base hm hO hC hI hb hW.drawn h
theorem gx_nil (h : EX Q .normal w0 L m tm d) : GX r n P ops Q w0 ξ j [] [] [] L m tm d := h
theorem gx_o {op : Op} (hw : seesB ops m tm ⟨some t, op, ty, pos, af, g⟩ = true)
    (hop : ∀ L2, OX r n P ops (obQ w0 j s dd ξ (some t) (maskL L s.2.2 ++ L2) (act m tm d)) w0 (maskL L s.2.2 ++ L2) [⟨some t, op, ty, pos, af, g⟩] m tm d)
    (h : GX r n P ops Q w0 ξ (j + 1) os ss ds (aftL s dd ξ L) m (upd tm t (dd.val ξ)) d) : GX r n P ops Q w0 ξ j (⟨some t, op, ty, pos, af, g⟩ :: os) (s :: ss) (dd :: ds) L m tm d := by
  unfold GX GW
  refine ⟨.inl ⟨by rw [wanted_act]; exact hw, fun L2 W hW => ?_⟩, ?_⟩
  · have h1 := hop L2 W hW
    unfold OL at h1
    rw [wanted_act, if_pos hw] at h1
    exact Oper.wpIn_mono (fun a w h => h) h1
  · rw [put_act]
    exact h
theorem gx_n {op : Op} (hw : seesB ops m tm ⟨none, op, ty, pos, af, g⟩ = true)
    (hop : ∀ L2, OX r n P ops (obQ w0 j s dd ξ none (maskL L s.2.2 ++ L2) (act m tm d)) w0 (maskL L s.2.2 ++ L2) [⟨none, op, ty, pos, af, g⟩] m tm d)
    (h : GX r n P ops Q w0 ξ (j + 1) os ss ds (aftL s dd ξ L) m tm d) : GX r n P ops Q w0 ξ j (⟨none, op, ty, pos, af, g⟩ :: os) (s :: ss) (dd :: ds) L m tm d := by
  unfold GX GW
  refine ⟨.inl ⟨by rw [wanted_act]; exact hw, fun L2 W hW => ?_⟩, h⟩
  have h1 := hop L2 W hW
  unfold OL at h1
  rw [wanted_act, if_pos hw] at h1
  exact Oper.wpIn_mono (fun a w h => h) h1
/-- What an operation leaves. -/
theorem ex_capG {Lf L' : List Res} {v : Value} (x : Xo) (hv : dd.val (updX ξ j x) = v) (hL : aftL s dd (updX ξ j x) Lf = L') : EX (obQ w0 j s dd ξ (some t) Lf (act m tm d)) .normal w0 L' m (upd tm t v) d := fun W hW => by
  subst hv hL
  exact ⟨rfl, x, (put_act m tm d (some t) _).symm, hW⟩
theorem ex_capGn {Lf L' : List Res} (x : Xo) (hL : aftL s dd (updX ξ j x) Lf = L') : EX (obQ w0 j s dd ξ none Lf (act m tm d)) .normal w0 L' m tm d := fun W hW => by
  subst hL
  exact ⟨rfl, x, rfl, hW⟩
end
end Go.Proofs.Ytndajeiecdmhnaa
