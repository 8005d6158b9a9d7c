/- Words for walks: '==' of arrays and structs of whole numbers. -/
import Derived.Test.YtndajeiecdmhnaaGf
namespace Go.Proofs.Ytndajeiecdmhnaa

def flds (P : Program) (t : TypeId) : Option (List (TypeId × Nat × Bool)) :=
  match P.underlying t with
  | some (.struct fs) => if P.stoodInHeld t then none else some (fs.toList.map fun f => (f.type, f.offset, f.name != "_"))
  | _ => none
theorem flds_spec {P : Program} {t : TypeId} {l : List (TypeId × Nat × Bool)} (h : flds P t = some l) : P.underlying t = some (.struct (P.fieldsOf t)) ∧ P.stoodInHeld t = false ∧ (P.fieldsOf t).toList.map (fun f => (f.type, f.offset, f.name != "_")) = l := by
  unfold flds at h
  cases hu : P.underlying t with
  | none => rw [hu] at h; cases h
  | some d =>
    rw [hu] at h
    cases d with
    | struct fs =>
      have hf : P.fieldsOf t = fs := by simp [Program.fieldsOf, hu]
      simp only [] at h
      split at h
      · cases h
      · rename_i hst
        rw [hf]
        exact ⟨rfl, by simpa using hst, Option.some.inj h⟩
    | _ => cases h
theorem eqS_nil {P : Program} {d : Nat} {xs ys : Array Value} {W : World} : (Op.eqFields d xs ys []).run P W = .ok true W := rfl
theorem eqS_cons {P : Program} {d : Nat} {xs ys : Array Value} {W : World} {f : Field} {fs : List Field} {x y : Value} {b c : Bool} (hn : (f.name != "_") = true)
    (hx : (part f.type xs f.offset).run P W = .ok x W) (hy : (part f.type ys f.offset).run P W = .ok y W) (h : (Op.equalIn d f.type x y).run P W = .ok b W) (hr : (Op.eqFields d xs ys fs).run P W = .ok c W) :
    (Op.eqFields d xs ys (f :: fs)).run P W = .ok (b && c) W := by
  have hn' : f.name ≠ "_" := by simpa using hn
  simp only [Op.eqFields, Sem.run_bind, Sem.run_ite, if_pos hn', hx, hy, h, Result.andThen_ok]
  cases b
  · simp
  · simpa using hr
theorem eqS2 {P : Program} {t t0 t1 : TypeId} {o0 o1 : Nat} {d : Nat} {W : World} {xs ys : Array Value} {x0 x1 y0 y1 : Value} {b0 b1 : Bool} (hf : flds P t = some [(t0, o0, true), (t1, o1, true)])
    (hx0 : (part t0 xs o0).run P W = .ok x0 W) (hx1 : (part t1 xs o1).run P W = .ok x1 W) (hy0 : (part t0 ys o0).run P W = .ok y0 W) (hy1 : (part t1 ys o1).run P W = .ok y1 W)
    (h0 : (Op.equalIn d t0 x0 y0).run P W = .ok b0 W) (h1 : (Op.equalIn d t1 x1 y1).run P W = .ok b1 W) : (Op.equalIn (d + 1) t (.agg xs) (.agg ys)).run P W = .ok (b0 && b1) W := by
  obtain ⟨h2, h3, h4⟩ := flds_spec hf
  rw [run_equalIn_struct W d t xs ys h2 h3]
  obtain ⟨f0, fs, hl, e0, hr⟩ := List.map_eq_cons_iff.1 h4
  obtain ⟨f1, gs, hl1, e1, hr1⟩ := List.map_eq_cons_iff.1 hr
  have hl2 := List.map_eq_nil_iff.1 hr1
  subst hl2 hl1
  simp only [Prod.mk.injEq] at e0 e1
  obtain ⟨rfl, rfl, n0⟩ := e0
  obtain ⟨rfl, rfl, n1⟩ := e1
  rw [hl]
  have := eqS_cons n0 hx0 hy0 h0 (eqS_cons n1 hx1 hy1 h1 (eqS_nil (d := d)))
  simpa using this
theorem eqS3 {P : Program} {t t0 t1 t2 : TypeId} {o0 o1 o2 : Nat} {d : Nat} {W : World} {xs ys : Array Value} {x0 x1 x2 y0 y1 y2 : Value} {b0 b1 b2 : Bool} (hf : flds P t = some [(t0, o0, true), (t1, o1, true), (t2, o2, true)])
    (hx0 : (part t0 xs o0).run P W = .ok x0 W) (hx1 : (part t1 xs o1).run P W = .ok x1 W) (hx2 : (part t2 xs o2).run P W = .ok x2 W) (hy0 : (part t0 ys o0).run P W = .ok y0 W) (hy1 : (part t1 ys o1).run P W = .ok y1 W) (hy2 : (part t2 ys o2).run P W = .ok y2 W)
    (h0 : (Op.equalIn d t0 x0 y0).run P W = .ok b0 W) (h1 : (Op.equalIn d t1 x1 y1).run P W = .ok b1 W) (h2 : (Op.equalIn d t2 x2 y2).run P W = .ok b2 W) : (Op.equalIn (d + 1) t (.agg xs) (.agg ys)).run P W = .ok (b0 && (b1 && b2)) W := by
  obtain ⟨h5, h3, h4⟩ := flds_spec hf
  rw [run_equalIn_struct W d t xs ys h5 h3]
  obtain ⟨f0, fs, hl, e0, hr⟩ := List.map_eq_cons_iff.1 h4
  obtain ⟨f1, gs, hl1, e1, hr1⟩ := List.map_eq_cons_iff.1 hr
  obtain ⟨f2, hs, hl3, e2, hr2⟩ := List.map_eq_cons_iff.1 hr1
  have hl2 := List.map_eq_nil_iff.1 hr2
  subst hl2 hl3 hl1
  simp only [Prod.mk.injEq] at e0 e1 e2
  obtain ⟨rfl, rfl, n0⟩ := e0
  obtain ⟨rfl, rfl, n1⟩ := e1
  obtain ⟨rfl, rfl, n2⟩ := e2
  rw [hl]
  have := eqS_cons n0 hx0 hy0 h0 (eqS_cons n1 hx1 hy1 h1 (eqS_cons n2 hx2 hy2 h2 (eqS_nil (d := d))))
  simpa using this
theorem part1 {P : Program} {t : TypeId} {xs : Array Value} {o : Nat} {W : World} {v : Value} (h : scB P t = true) (hv : xs[o]? = some v) : (part t xs o).run P W = .ok v W := by
  simp [part, run_isAgg_sc h, hv]
theorem partN {P : Program} {t : TypeId} {xs : Array Value} {o k : Nat} {W : World} {cs : Array Value} (h : aggB P t k = true) (hv : xs.extract o (o + k) = cs) : (part t xs o).run P W = .ok (.agg cs) W := by
  simp [part, run_isAgg_agg h, run_sizeOf_agg h, hv]
section
variable {r : Option Nat} {n : Nat} {P : Program} {ρ : Operand → Value} {t : Option Tmp} {ty : TypeId} {pos : String} {af : Array Edge} {g : Option (Nat × Bool)} {C : World → Prop}
theorem y_eqla {x y : Operand} {u u' : TypeId} {xs ys : Array Value} {b : Bool} (hg : P.eqGuardType P.depth u = false) (hx : ρ x = .agg xs) (hy : ρ y = .agg ys) (h : ∀ W, (Op.equalIn 10000 u (.agg xs) (.agg ys)).run P W = .ok b W) : OpY r n P ⟨t, .binOp .eql u x y u', ty, pos, af, g⟩ ρ C C (.bool b) :=
  opY_val (by intro c h; cases h) (fun W _ => by
    simp only [execOp, hx, hy, Sem.run_bind, run_eqGuard_agg W .eql u x y xs ys hg, Result.andThen_ok, run_eql_struct, h]
    rfl)
theorem y_neqa {x y : Operand} {u u' : TypeId} {xs ys : Array Value} {b : Bool} (hg : P.eqGuardType P.depth u = false) (hx : ρ x = .agg xs) (hy : ρ y = .agg ys) (h : ∀ W, (Op.equalIn 10000 u (.agg xs) (.agg ys)).run P W = .ok b W) : OpY r n P ⟨t, .binOp .neq u x y u', ty, pos, af, g⟩ ρ C C (.bool (!b)) :=
  opY_val (by intro c h; cases h) (fun W _ => by
    simp only [execOp, hx, hy, Sem.run_bind, run_eqGuard_agg W .neq u x y xs ys hg, Result.andThen_ok, run_neq_struct, h]
    rfl)
end

end Go.Proofs.Ytndajeiecdmhnaa
