/- Words for walks: an iterator's function, from its own side. -/
import Derived.Test.YtndajeiecdmhnaaGm
namespace Go.Proofs.Ytndajeiecdmhnaa
open Go.RowKit (Below)

section
variable {P : Program} {Q : Exit → Act → World → Prop} {w0 : World} {m : Nat} {tm : Nat → Value} {d : List Deferred} {r : Option Nat} {n : Nat}
/-- A round goes on with a lesser state, or leaves. -/
def rndS {S : Type} (R : S → Act → World → Prop) (μ : S → Nat) (Q : Exit → Act → World → Prop) (s : S) : Exit → Act → World → Prop := fun e a W =>
  (e = .normal → ∃ s', R s' a W ∧ μ s' < μ s) ∧ (e ≠ .normal → Q e a W)
theorem wp_loopS {S : Type} {F : Fence} {c : Code} {a : Act} {W : World} (R : S → Act → World → Prop) (μ : S → Nat) {s0 : S} (h0 : R s0 a W)
    (round : ∀ s a W, R s a W → c.wpIn F n P (rndS R μ Q s) a W) : (Code.loop c).wpIn F n P Q a W := by
  let p : Act → World → Nat → Prop := fun a W k => ∃ s, R s a W ∧ μ s = k
  let M : Act → World → Nat := fun a W => open Classical in if h : ∃ k, p a W k ∧ ∀ i, i < k → ¬ p a W i then Classical.choose h else 0
  have hM : ∀ a W k, p a W k → p a W (M a W) ∧ ∀ j, p a W j → M a W ≤ j := fun a W k hk => by
    have hx := least (p a W) k hk
    have he : M a W = Classical.choose hx := by simp only [M]; rw [dif_pos hx]
    have hs := Classical.choose_spec hx
    rw [← he] at hs
    exact ⟨hs.1, fun j hj => by
      rcases Nat.lt_or_ge j (M a W) with h | h
      · exact absurd hj (hs.2 j h)
      · exact h⟩
  refine wpIn_loop (fun a W => ∃ k, p a W k) M ⟨_, s0, h0, rfl⟩ ?_
  rintro a1 W1 ⟨k, hk⟩
  obtain ⟨⟨s1, hR, hμ⟩, hmin⟩ := hM a1 W1 k hk
  refine wpIn_mono (round s1 a1 W1 hR) ?_
  intro e a2 W2 h2
  cases e with
  | normal =>
    obtain ⟨s', hR', hlt⟩ := h2.1 rfl
    have hp : p a2 W2 (μ s') := ⟨s', hR', rfl⟩
    exact ⟨⟨_, hp⟩, by have := (hM _ _ _ hp).2 _ hp; omega⟩
  | _ => exact h2.2 (by intro h; cases h)
/-- A loop whose rounds start in worlds of their own. -/
theorem cx_loopS {S : Type} {c : Code} (T : S → (Nat → Value) → Nat → Value) (G : S → World → Prop) (μ : S → Nat) (s0 : S) (tm0 : Nat → Value) (ht : tm = T s0 tm0) (h0 : ∀ W, Ext w0 W [] → G s0 W)
    (round : ∀ s tm0 W, G s W → CX r n P c (rndS (fun s a W => ∃ tm0, a = act m (T s tm0) d ∧ G s W) μ Q s) W [] m (T s tm0) d) : CX r n P (.loop c) Q w0 [] m tm d := fun W hW =>
  wp_loopS (fun s a W => ∃ tm0, a = act m (T s tm0) d ∧ G s W) μ (s0 := s0) ⟨tm0, by rw [ht], h0 W hW⟩ (fun s a W h => by
    obtain ⟨tm0, rfl, hG⟩ := h
    exact round s tm0 W hG W (Ext.nil W))
theorem ex_sout {S : Type} {R : S → Act → World → Prop} {μ : S → Nat} {s : S} {L : List Res} {e : Exit} (he : e ≠ .normal) (h : EX Q e w0 L m tm d) : EX (rndS R μ Q s) e w0 L m tm d := fun W hW => ⟨fun h' => absurd h' he, fun _ => h W hW⟩
theorem ex_snext {S : Type} {T : S → (Nat → Value) → Nat → Value} {G : S → World → Prop} {μ : S → Nat} {s : S} {L : List Res} (s' : S) (tm0 : Nat → Value) (ht : tm = T s' tm0) (hμ : μ s' < μ s) (h : ∀ W, Ext w0 W L → G s' W) :
    EX (rndS (fun s a W => ∃ tm0, a = act m (T s tm0) d ∧ G s W) μ Q s) .normal w0 L m tm d := fun W hW => ⟨fun _ => ⟨s', ⟨tm0, by rw [ht], h W hW⟩, hμ⟩, fun h => absurd rfl h⟩
variable {ops : Array Oper} {t : Tmp} {ty : TypeId} {pos : String} {af : Array Edge} {g : Option (Nat × Bool)} {rest : List Oper} {L : List Res}
/-- A call of yield: what follows starts in a world of its own. -/
theorem ox_yield {x : Operand} {xs : List Operand} {us : Array TypeId} {l : Nat} (vs : List Value) {A B : World → Prop} (hw : seesB ops m tm ⟨some t, .call ⟨.value x, xs.toArray, us⟩, ty, pos, af, g⟩ = true) (hx : opv m tm x = .func (.yield l) #[] #[]) (ha : xs.map (opv m tm) = vs)
    (hy : ∀ W, Ext w0 W L → YieldAt (Fw none) 6 P l vs.toArray W fun e W' => (e = .returned (.bool true) ∧ A W') ∨ (e = .returned (.bool false) ∧ B W'))
    (hA : ∀ W, A W → OX none 7 P ops Q W [] rest m (upd tm t (.bool true)) d) (hB : ∀ W, B W → OX none 7 P ops Q W [] rest m (upd tm t (.bool false)) d) :
    OX none 7 P ops Q w0 L (⟨some t, .call ⟨.value x, xs.toArray, us⟩, ty, pos, af, g⟩ :: rest) m tm d := fun W hW => by
  unfold OL
  rw [wanted_act, if_pos hw]
  refine ⟨fun _ _ => trivial, ?_⟩
  subst ha
  obtain ⟨fn, tmps, assign, body, hr, hR⟩ := hy W hW
  have e : (execOp (opv m tm) ⟨some t, .call ⟨.value x, xs.toArray, us⟩, ty, pos, af, g⟩).run P W = .ok (.round l fn tmps assign body) W := by
    have h9 : (Instr.yield l (xs.map (opv m tm)).toArray).run P W = .ok (.round l fn tmps assign body) W := hr
    simp [execOp, resolve, hx, Deferred.ofValue, invoke]
    simpa using h9
  have e0 : (Fw none).round = none := rfl
  rw [e0, semAt_exec (by intro c h; cases h), eval_act, e]
  refine ⟨(fun hd => by cases hd), ?_⟩
  refine hR.mono ?_
  rintro e' W' (⟨rfl, h⟩ | ⟨rfl, h⟩)
  · show OL none 7 P ops Q rest ((act m tm d).put (some t) (.bool true)) W'
    rw [put_act]
    exact hA W' h W' (Ext.nil W')
  · show OL none 7 P ops Q rest ((act m tm d).put (some t) (.bool false)) W'
    rw [put_act]
    exact hB W' h W' (Ext.nil W')
theorem callsIn_enter {f : FuncId} {fn : Func} {c : Code} {vs : List Value} {W : World} {R : Ending → World → Prop} (hf : P.funcs[f]? = some fn) (hb : fn.body = some c) (hn : fn.ntmps = m) (hl : vs.length ≤ m)
    (h : CX none 7 P c (bodyPost P fn R) W [] m (fun i => (vs[i]?).getD undef) []) : CallsIn (Fw none) 7 P f vs.toArray W R := by
  refine callsIn_of_wp hf hb trivial ?_ rfl
  rw [act_enter _ _ (by rw [hn]; simpa using hl), hn]
  have := h W (Ext.nil W)
  simpa using this
theorem Ext.grown {w0 W : World} {L : List Res} (h : Ext w0 W L) (row : Option Nat) (hr : row = Option.none) : w0.grownBy W row := by
  subst hr
  exact ⟨h.below.os, h.below.tape, h.below.output, h.below.size, fun k hk _ => h.below.block k hk⟩
theorem Rd.blk {W : World} {b : Nat} {e : TypeId} {cs : List Value} (h : W.heap[b]? = some (.cells cs.toArray e (0, 0))) : Rd W (some ⟨b, 0, none⟩) 1 1 cs :=
  ⟨fun j v hj => ⟨b, 0, rfl, by rw [Nat.zero_add, cell_of_blk h]; simpa using hj⟩, Nat.le_refl _⟩
theorem AbidesFrom.ext {β : Type} {B : Nat} {J : β → World → Prop} (h : AbidesFrom B J) {s : β} {W W' : World} (hs : J s W) (hE : Ext W W' []) : J s W' :=
  h s W W' Option.none hs (hE.grown Option.none rfl) (fun r e => by cases e)
end
end Go.Proofs.Ytndajeiecdmhnaa
