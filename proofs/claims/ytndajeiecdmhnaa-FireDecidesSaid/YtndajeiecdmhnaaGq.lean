/- Words for walks: maps from numbers to numbers. -/
import Derived.Test.YtndajeiecdmhnaaGo
import Derived.Maps.Own
import Derived.Maps.Views
namespace Go.Proofs.Ytndajeiecdmhnaa
open Go.RowKit (Below)

/-- Block b is a map that reads as the list of what was put into it, the last one first. -/
def mapR (P : Program) (kt et : TypeId) (b : Nat) (m : List (Int × Int)) : Res where
  dom c := c = b
  holds W := ∃ D : DataW Unit, W.ownsMap P kt (plainElem P et) b m.length D ∧ Maps.IsMap D ∧ ∀ x : Int, rngB x = true → D.atKey (.int .i64 x) (.lit (.int .i64 0)) = .lit (.int .i64 (mget m x))
  loc W W' h _ hh := by
    obtain ⟨D, ⟨es, clock, hb, h1⟩, h2⟩ := hh
    exact ⟨D, ⟨es, clock, (h b rfl).trans hb, h1⟩, h2⟩
  inb W h c hc := by
    obtain ⟨D, h1, _⟩ := h
    have hc' : c = b := hc
    rw [hc']
    exact h1.lt
theorem rngB_wf {x : Int} (h : rngB x = true) : (Lit.int .i64 x).wf = true := by
  unfold rngB at h
  simp only [Bool.and_eq_true, decide_eq_true_eq] at h
  have h1 : IntKind.i64.min = -9223372036854775808 := by decide
  have h2 : IntKind.i64.max = 9223372036854775807 := by decide
  simp [Lit.wf, h1, h2]
  omega
section
variable {P : Program} {w0 : World} {L : List Res}
theorem zero_run {W : World} {e : TypeId} {z : Value} (h : zeroOf P e = some z) : (zeroValue e).run P W = .ok z W := by
  unfold zeroOf at h
  cases hi : P.info? e with
  | none => rw [hi] at h; cases h
  | some inf =>
    rw [hi] at h
    have h' : inf.zero = some z := h
    simp [zeroValue, typeInfo, hi, h']
theorem Cy.map {B : Nat} {kt et : TypeId} {b : Nat} {m : List (Int × Int)} (h : b < B) : Cy B (mapR P kt et b m) := fun W c _ hc => by
  have hc' : c = b := hc
  exact .inl (by omega)
end
section
variable {r : Option Nat} {n : Nat} {P : Program} {ρ : Operand → Value} {w0 : World} {L : List Res}
variable {t : Option Tmp} {ty : TypeId} {pos : String} {af : Array Edge} {g : Option (Nat × Bool)}
theorem keyI {kt : TypeId} (hk : P.underlying kt = some (.int .i64)) {x : Int} (h : rngB x = true) : keyOf P kt (.int .i64 x) = some (.int .i64 x) := by
  have := rngB_wf h
  simp [keyOf, hk, mapKey, this]
end
section
variable {r : Option Nat} {n : Nat} {P : Program} {ops : Array Oper} {Q : Exit → Act → World → Prop} {w0 : World} {L : List Res} {m : Nat} {tm : Nat → Value} {d : List Deferred}
variable {t : Tmp} {ty : TypeId} {pos : String} {af : Array Edge} {g : Option (Nat × Bool)} {l rest : List Oper}
end
end Go.Proofs.Ytndajeiecdmhnaa
