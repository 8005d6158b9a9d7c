/- Words for walks: loops. -/
import Derived.Test.YtndajeiecdmhnaaGe
import Derived.Test.YtndajeiecdmhnaaGp
namespace Go.Proofs.Ytndajeiecdmhnaa
open Go.RowKit (Below)

theorem least (p : Nat → Prop) : ∀ k, p k → ∃ j, p j ∧ ∀ i, i < j → ¬ p i := by
  intro k
  induction k using Nat.strongRecOn with
  | _ k ih =>
    intro hk
    by_cases h : ∃ i, i < k ∧ p i
    · obtain ⟨i, hi, hp⟩ := h
      exact ih i hi hp
    · exact ⟨k, hk, fun i hi hp => h ⟨i, hi, hp⟩⟩

section
variable {r : Option Nat} {n : Nat} {P : Program} {Q : Exit → Act → World → Prop} {w0 : World} {L : List Res} {m : Nat} {tm : Nat → Value} {d : List Deferred}
/-- Where a round ends: at the head again, or on a way out. -/
def rndQ {S T : Type} (w0 : World) (m : Nat) (d : List Deferred) (I : S → List Res → (Nat → Value) → Prop) (J : T → Exit → List Res → (Nat → Value) → Prop) (st : S ⊕ T) : Exit → Act → World → Prop := fun e a W =>
  match st with
  | .inl s' => e = .normal ∧ ∃ L' tm', a = act m tm' d ∧ Ext w0 W L' ∧ I s' L' tm'
  | .inr u => ∃ L' tm', a = act m tm' d ∧ Ext w0 W L' ∧ J u e L' tm'
theorem ex_next {S T : Type} {I : S → List Res → (Nat → Value) → Prop} {J : T → Exit → List Res → (Nat → Value) → Prop} {s' : S} (h : I s' L tm) : EX (rndQ w0 m d I J (.inl s')) .normal w0 L m tm d := fun _ hW => ⟨rfl, L, tm, rfl, hW, h⟩
theorem ex_stop {S T : Type} {I : S → List Res → (Nat → Value) → Prop} {J : T → Exit → List Res → (Nat → Value) → Prop} {u : T} {e : Exit} (h : J u e L tm) : EX (rndQ w0 m d I J (.inr u)) e w0 L m tm d := fun _ hW => ⟨L, tm, rfl, hW, h⟩
theorem cx_loop {S T : Type} {body : S → Option (S ⊕ T)} {c : Code} {s : S} {u : T} (I : S → List Res → (Nat → Value) → Prop) (J : T → Exit → List Res → (Nat → Value) → Prop) (hl : loopO body s = some u) (h0 : I s L tm)
    (round : ∀ s L tm st, I s L tm → body s = some st → CX r n P c (rndQ w0 m d I J st) w0 L m tm d)
    (after : ∀ e L tm, J u e L tm → e ≠ .normal ∧ EX Q e w0 L m tm d) : CX r n P (.loop c) Q w0 L m tm d := fun W hW => by
  let p : Act → World → Nat → Prop := fun a W k => ∃ s L tm, loopN body k s = some u ∧ a = act m tm d ∧ Ext w0 W L ∧ I s L tm
  let μ : Act → World → Nat := fun a W => open Classical in if h : ∃ k, p a W k ∧ ∀ i, i < k → ¬ p a W i then Classical.choose h else 0
  have hμ : ∀ a W k, p a W k → p a W (μ a W) ∧ ∀ j, p a W j → μ a W ≤ j := fun a W k hk => by
    have hx := least (p a W) k hk
    have he : μ a W = Classical.choose hx := by simp only [μ]; rw [dif_pos hx]
    have hs := Classical.choose_spec hx
    rw [← he] at hs
    exact ⟨hs.1, fun j hj => by
      rcases Nat.lt_or_ge j (μ a W) with h | h
      · exact absurd hj (hs.2 j h)
      · exact h⟩
  obtain ⟨k, hk⟩ := loopO_some hl
  refine wpIn_loop (fun a W => ∃ k, p a W k) μ ⟨k, s, L, tm, hk, rfl, hW, h0⟩ ?_
  rintro a W1 ⟨k, hk⟩
  obtain ⟨⟨s1, L1, tm1, hN, rfl, hE, hI⟩, hmin⟩ := hμ a W1 k hk
  cases hj : μ (act m tm1 d) W1 with
  | zero => rw [hj] at hN; cases hN
  | succ j =>
    rw [hj] at hN
    unfold loopN at hN
    cases hb : body s1 with
    | none => rw [hb] at hN; cases hN
    | some st =>
      rw [hb] at hN
      refine wpIn_mono (round s1 L1 tm1 st hI hb W1 hE) ?_
      intro e a2 W2 h2
      cases st with
      | inl s' =>
        obtain ⟨rfl, L', tm', rfl, hE', hI'⟩ := h2
        have hp : p (act m tm' d) W2 j := ⟨s', L', tm', hN, rfl, hE', hI'⟩
        exact ⟨⟨j, hp⟩, by have := (hμ _ _ _ hp).2 j hp; omega⟩
      | inr u' =>
        obtain ⟨L', tm', rfl, hE', hJ⟩ := h2
        have : u' = u := Option.some.inj hN
        subst this
        obtain ⟨hne, hex⟩ := after e L' tm' hJ
        have h3 := hex W2 hE'
        cases e with
        | normal => exact absurd rfl hne
        | _ => exact h3
end

/-! ### Frames spelled anew; ways that meet again -/
theorem keep {tm tm' : Nat → Value} {i : Nat} {v : Value} (h : tm = tm') (hv : tm i = v) : tm = upd tm' i v := by
  funext j
  unfold upd
  split
  · rename_i e; rw [e, hv]
  · rw [h]
theorem sees_t {ops : Array Oper} {m : Nat} {tm : Nat → Value} {o : Oper} {j x : Nat} {b p : Bool} (hg : o.guard = some (j, b)) (hd : (ops[j]?).bind (·.dst) = some x) (hx : Nat.blt x m = true) (hv : tm x = .bool p) (hp : p = b) : seesB ops m tm o = true := by
  have hx' : x < m := by simpa using hx
  unfold seesB
  rw [hg]
  simp only [hd, hx', if_true, hv, hp, beq_self_eq_true]
theorem sees_f {ops : Array Oper} {m : Nat} {tm : Nat → Value} {o : Oper} {j x : Nat} {b p : Bool} (hg : o.guard = some (j, b)) (hd : (ops[j]?).bind (·.dst) = some x) (hx : Nat.blt x m = true) (hv : tm x = .bool p) (hp : p = !b) : seesB ops m tm o = false := by
  have hx' : x < m := by simpa using hx
  unfold seesB
  rw [hg]
  simp only [hd, hx', if_true, hv, hp]
  cases b <;> rfl
section
variable {r : Option Nat} {n : Nat} {P : Program} {ops : Array Oper} {Q : Exit → Act → World → Prop} {w0 : World} {L : List Res} {m : Nat} {tm : Nat → Value} {d : List Deferred} {l tail : List Oper}
theorem ox_join (k : Nat) (F : (Nat → Value) → (Nat → Value)) (key : ∀ tm0, OX r n P ops Q w0 L (l.drop k) m (F tm0) d) (br : (∀ tm0 tm', tm' = F tm0 → OX r n P ops Q w0 L (l.drop k) m tm' d) → OX r n P ops Q w0 L l m tm d) : OX r n P ops Q w0 L l m tm d :=
  br fun tm0 _ h => by rw [h]; exact key tm0
theorem qx_join (k : Nat) (F : (Nat → Value) → (Nat → Value)) (key : ∀ tm0, QX r n P ops Q w0 L tail (l.drop k) m (F tm0) d) (br : (∀ tm0 tm', tm' = F tm0 → QX r n P ops Q w0 L tail (l.drop k) m tm' d) → QX r n P ops Q w0 L tail l m tm d) : QX r n P ops Q w0 L tail l m tm d :=
  br fun tm0 _ h => by rw [h]; exact key tm0
theorem ox_take (k : Nat) (h : OX r n P ops Q w0 (L.take k) l m tm d) : OX r n P ops Q w0 L l m tm d := fun W hW => h W (hW.take k)
end
section
variable {r : Option Nat} {n : Nat} {P : Program} {ρ : Operand → Value} {w0 : World} {L : List Res}
variable {t : Option Tmp} {ty : TypeId} {pos : String} {af : Array Edge} {g : Option (Nat × Bool)} {C : World → Prop}
theorem y_extract {x : Operand} {i : Nat} {vs : List Value} {v : Value} (hx : ρ x = .tuple vs.toArray) (hv : vs[i]? = some v) : OpY r n P ⟨t, .extract x i, ty, pos, af, g⟩ ρ C C v :=
  opY_val (by intro c h; cases h) (fun W _ => by simp [execOp, hx, Instr.extract, hv])
theorem y_move_tuple {x : Operand} {a : Array Value} (hx : ρ x = .tuple a) : OpY r n P ⟨t, .move x, ty, pos, af, g⟩ ρ C C (.tuple a) := y_move hx
end

end Go.Proofs.Ytndajeiecdmhnaa
