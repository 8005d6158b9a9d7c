/- Words for walks: conversions of numbers. -/
import Derived.Test.YtndajeiecdmhnaaGq
namespace Go.Proofs.Ytndajeiecdmhnaa
open Go.RowKit (Below)
section
variable {r : Option Nat} {n : Nat} {P : Program} {ρ : Operand → Value}
variable {t : Option Tmp} {ty : TypeId} {pos : String} {af : Array Edge} {g : Option (Nat × Bool)} {C : World → Prop}
theorem y_convert {x : Operand} {u v : TypeId} {k : IntKind} {a : Int} (hu : P.underlying u = some (.int k)) (hv : P.underlying v = some (.int .i64)) (hx : ρ x = .int k a) : OpY r n P ⟨t, .convert u v x, ty, pos, af, g⟩ ρ C C (.int .i64 (w64 a)) :=
  opY_val (by intro c h; cases h) (fun W _ => by
    have h1 : (convert u v (.int k a)).run P W = .ok (.int .i64 (w64 a)) W := by
      rw [← wrap_w64]
      simp [convert, underlying, hu, hv, Conv.intToInt]
    simp [execOp, hx, h1])
end
section
variable {r : Option Nat} {n : Nat} {P : Program} {ops : Array Oper} {Q : Exit → Act → World → Prop} {w0 : World} {L L' : List Res} {m : Nat} {tm : Nat → Value} {d : List Deferred}
theorem cx_perm {c : Code} (hp : ∀ W, Ext w0 W L → Ext w0 W L') (h : CX r n P c Q w0 L' m tm d) : CX r n P c Q w0 L m tm d := fun W hW => h W (hp W hW)
theorem ox_perm {l : List Oper} (hp : ∀ W, Ext w0 W L → Ext w0 W L') (h : OX r n P ops Q w0 L' l m tm d) : OX r n P ops Q w0 L l m tm d := fun W hW => h W (hp W hW)
theorem ex_perm {e : Exit} (hp : ∀ W, Ext w0 W L → Ext w0 W L') (h : EX Q e w0 L' m tm d) : EX Q e w0 L m tm d := fun W hW => h W (hp W hW)
theorem Ext.swap {W : World} {p q : Res} (h : Ext w0 W [p, q]) : Ext w0 W [q, p] := by
  have hg : ∀ (i : Nat) (s : Res), [q, p][i]? = some s → ∃ j, [p, q][j]? = some s ∧ j + i = 1 := fun i s hs => by
    match i, hs with
    | 0, hs => exact ⟨1, by simpa using hs, rfl⟩
    | 1, hs => exact ⟨0, by simpa using hs, rfl⟩
  refine ⟨h.below, fun i s hs => ?_, fun i s hs => ?_, fun i j s t hs ht hne => ?_⟩
  · obtain ⟨j, hj, _⟩ := hg i s hs; exact h.all j s hj
  · obtain ⟨j, hj, _⟩ := hg i s hs; exact h.new j s hj
  · obtain ⟨k, hk, e⟩ := hg i s hs
    obtain ⟨l, hl, e'⟩ := hg j t ht
    exact h.sep k l s t hk hl (by omega)
end
end Go.Proofs.Ytndajeiecdmhnaa
