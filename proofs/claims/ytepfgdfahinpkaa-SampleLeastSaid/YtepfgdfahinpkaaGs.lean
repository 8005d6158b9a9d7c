/- Words for walks: conversions of numbers. -/
import Derived.Test.YtepfgdfahinpkaaGr
namespace Go.Proofs.Ytepfgdfahinpkaa
open Go.RowKit (Below)
section
variable {r : Option Nat} {n : Nat} {P : Program} {ρ : Operand → Value}
variable {t : Option Tmp} {ty : TypeId} {pos : String} {af : Array Edge} {g : Option (Nat × Bool)} {C : World → Prop}
theorem y_convert {x : Operand} {u v : TypeId} {k : IntKind} {a : Int} (hu : P.underlying u = some (.int k)) (hv : P.underlying v = some (.int .i64)) (hx : ρ x = .int k a) : OpY r n P ⟨t, .convert u v x, ty, pos, af, g⟩ ρ C C (.int .i64 (w64 a)) :=
  opY_val (by intro c h; cases h) (fun W _ => by
    have h1 : (convert u v (.int k a)).run P W = .ok (.int .i64 (w64 a)) W := by
      rw [← wrap_w64]
      simp [convert, underlying, hu, hv, Conv.intToInt]
    simp [execOp, hx, h1])
end
end Go.Proofs.Ytepfgdfahinpkaa
