/- Words for walks: pieces put together, calls that turn a piece of their caller's; arrays of four; nil slices. -/
import Derived.Test.YtndajeiecdmhnaaGs
import Derived.Test.YtndajeiecdmhnaaGl
import Derived.Test.YtndajeiecdmhnaaGx
namespace Go.Proofs.Ytndajeiecdmhnaa
open Go.RowKit (Below)

section
variable {w0 : World} {L : List Res}
/-- The pieces but number i, as one. -/
def restR (L : List Res) (S : List Nat) : Res where
  dom b := ∃ (j : Nat) (p : Res), j ∉ S ∧ L[j]? = some p ∧ p.dom b
  holds W := (∀ (j : Nat) (p : Res), j ∉ S → L[j]? = some p → p.holds W) ∧ ∀ (j k : Nat) (p q : Res), j ∉ S → k ∉ S → L[j]? = some p → L[k]? = some q → j ≠ k → ∀ b, p.dom b → ¬ q.dom b
  loc W W' h hs hh := ⟨fun j p hj hp => p.loc W W' (fun b hb => h b ⟨j, p, hj, hp, hb⟩) hs (hh.1 j p hj hp), hh.2⟩
  inb W hh b hb := by
    obtain ⟨j, p, hj, hp, hd⟩ := hb
    exact p.inb W (hh.1 j p hj hp) b hd
/-- No piece. -/
def noR : Res where
  dom _ := False
  holds _ := True
  loc _ _ _ _ _ := trivial
  inb _ _ _ hb := hb.elim
theorem Ext.focus {W : World} (h : Ext w0 W L) (i : Nat) {p : Res} (hp : L[i]? = some p) : Ext w0 W [restR L [i], p] where
  below := h.below
  all k q hq := by
    match k, hq with
    | 0, hq => cases hq; exact ⟨fun j p _ hp => h.all j p hp, fun j k p q _ _ hp hq hne => h.sep j k p q hp hq hne⟩
    | 1, hq => cases hq; exact h.all i p hp
  new k q hq b hb := by
    match k, hq with
    | 0, hq => cases hq; obtain ⟨j, p', _, hp', hd⟩ := hb; exact h.new j p' hp' b hd
    | 1, hq => cases hq; exact h.new i p hp b hb
  sep k l q q' hq hq' hne b hb hb' := by
    match k, hq, l, hq' with
    | 0, hq, 0, hq' => exact hne rfl
    | 1, hq, 1, hq' => exact hne rfl
    | 0, hq, 1, hq' =>
      cases hq; cases hq'
      obtain ⟨j, p', hj, hp', hd⟩ := hb
      exact h.sep j i _ _ hp' hp (fun e => hj (by simp [e])) b hd hb'
    | 1, hq, 0, hq' =>
      cases hq; cases hq'
      obtain ⟨j, p', hj, hp', hd⟩ := hb'
      exact h.sep i j _ _ hp hp' (fun e => hj (by simp [e])) b hb hd
theorem Ext.unfocus {W W2 : World} (h : Ext w0 W L) (i : Nat) {p p' : Res} (hp : L[i]? = some p) {X : List Res} (h2 : Ext w0 W2 (restR L [i] :: p' :: X)) : Ext w0 W2 (L.set i p' ++ X) := by
  have hi : i < L.length := (List.getElem?_eq_some_iff.1 hp).1
  have hget : ∀ (k : Nat) (q : Res), (L.set i p' ++ X)[k]? = some q → (k = i ∧ q = p') ∨ (k ≠ i ∧ L[k]? = some q) ∨ (L.length ≤ k ∧ (restR L [i] :: p' :: X)[k - L.length + 2]? = some q) := by
    intro k q hq
    by_cases hk : k < L.length
    · rw [List.getElem?_append_left (by simpa using hk), List.getElem?_set] at hq
      by_cases e : i = k
      · subst e
        simp [hi] at hq
        exact .inl ⟨rfl, hq.symm⟩
      · rw [if_neg e] at hq
        exact .inr (.inl ⟨fun e' => e e'.symm, hq⟩)
    · rw [List.getElem?_append_right (by simpa using Nat.le_of_not_lt hk), List.length_set] at hq
      exact .inr (.inr ⟨Nat.le_of_not_lt hk, by simpa using hq⟩)
  have hr : ∀ (k : Nat) (q : Res) (b : Nat), k ≠ i → L[k]? = some q → q.dom b → (restR L [i]).dom b := fun k q b hk hq hb => ⟨k, q, by simpa using hk, hq, hb⟩
  refine ⟨h2.below, fun k q hq => ?_, fun k q hq b hb => ?_, fun k l q q' hq hq' hne b hb hb' => ?_⟩
  · rcases hget k q hq with ⟨_, rfl⟩ | ⟨h3, h4⟩ | ⟨h3, h4⟩
    · exact h2.all 1 _ rfl
    · exact (h2.all 0 _ rfl).1 k q (by simpa using h3) h4
    · exact h2.all _ q h4
  · rcases hget k q hq with ⟨_, rfl⟩ | ⟨h3, h4⟩ | ⟨h3, h4⟩
    · exact h2.new 1 _ rfl b hb
    · exact h.new k q h4 b hb
    · exact h2.new _ q h4 b hb
  · rcases hget k q hq with ⟨a1, a2⟩ | ⟨h3, h4⟩ | ⟨h3, h4⟩ <;> rcases hget l q' hq' with ⟨b1, b2⟩ | ⟨h5, h6⟩ | ⟨h5, h6⟩
    · exact hne (a1.trans b1.symm)
    · subst a2
      exact h2.sep 1 0 _ _ rfl rfl (by decide) b hb (hr l q' b h5 h6 hb')
    · subst a2
      exact h2.sep 1 _ _ _ rfl h6 (by omega) b hb hb'
    · subst b2
      exact h2.sep 1 0 _ _ rfl rfl (by decide) b hb' (hr k q b h3 h4 hb)
    · exact h.sep k l q q' h4 h6 hne b hb hb'
    · exact h2.sep _ 0 _ _ h6 rfl (by omega) b hb' (hr k q b h3 h4 hb)
    · subst b2
      exact h2.sep _ 1 _ _ h4 rfl (by omega) b hb hb'
    · exact h2.sep _ 0 _ _ h4 rfl (by omega) b hb (hr l q' b h5 h6 hb')
    · exact h2.sep _ _ _ _ h4 h6 (by omega) b hb hb'
/-- The other pieces, where a piece is out of sight. -/
theorem Ext.rest {W W3 : World} {i : Nat} {X : List Res} (h : Ext w0 W (restR L [i] :: X)) (hb : Below w0.heap.size w0 W3) (hR : (restR L [i]).holds W3) : Ext w0 W3 (L.set i noR) := by
  have hget : ∀ (k : Nat) (q : Res), (L.set i noR)[k]? = some q → q = noR ∨ (k ∉ [i] ∧ L[k]? = some q) := by
    intro k q hq
    rw [List.getElem?_set] at hq
    by_cases e : i = k
    · subst e
      rw [if_pos rfl] at hq
      split at hq
      · cases hq; exact .inl rfl
      · cases hq
    · rw [if_neg e] at hq
      exact .inr ⟨by simp; exact fun e' => e e'.symm, hq⟩
  refine ⟨hb, fun k q hq => ?_, fun k q hq b hd => ?_, fun k l q q' hq hq' hne b hd hd' => ?_⟩
  · rcases hget k q hq with rfl | ⟨h1, h2⟩
    · trivial
    · exact hR.1 k q h1 h2
  · rcases hget k q hq with rfl | ⟨h1, h2⟩
    · exact hd.elim
    · exact h.new 0 _ rfl b ⟨k, q, h1, h2, hd⟩
  · rcases hget k q hq with rfl | ⟨h1, h2⟩
    · exact hd.elim
    · rcases hget l q' hq' with rfl | ⟨h3, h4⟩
      · exact hd'.elim
      · exact hR.2 k l q q' h1 h3 h2 h4 hne b hd hd'
end

section
variable {r : Option Nat} {n : Nat} {P : Program} {ops : Array Oper} {Q : Exit → Act → World → Prop} {w0 : World} {L L' : List Res} {m : Nat} {tm : Nat → Value} {d : List Deferred}
variable {t : Tmp} {ty : TypeId} {pos : String} {af : Array Edge} {g : Option (Nat × Bool)} {rest : List Oper}
/-- A call that turns piece number i of its caller's, and makes others. -/
theorem ox_callT {α : Type} {f : FuncId} {xs : List Operand} {us : Array TypeId} (i : Nat) {p : Res} (vs : List Value) (φ : α → Prop) (val : α → Value) (p' : α → Res) (res : α → List Res) (hL : L[i]? = some p)
    (hw : seesB ops m tm ⟨some t, .call ⟨.value (.func f), xs.toArray, us⟩, ty, pos, af, g⟩ = true) (hf : goes P f = true) (ha : xs.map (opv m tm) = vs)
    (hc : ∀ W, Ext w0 W [restR L [i], p] → Calls P f vs.toArray W fun e W' => ∃ x : α, φ x ∧ e = .returned (val x) ∧ Ext w0 W' (restR L [i] :: p' x :: res x))
    (h : ∀ x, φ x → OX r n P ops Q w0 (L.set i (p' x) ++ res x) rest m (upd tm t (val x)) d) : OX r n P ops Q w0 L (⟨some t, .call ⟨.value (.func f), xs.toArray, us⟩, ty, pos, af, g⟩ :: rest) m tm d := fun W hW => by
  unfold OL
  rw [wanted_act, if_pos hw]
  refine ⟨fun _ _ => trivial, ?_⟩
  show Oper.uponIn (Fw r) n P _ _ _ Q ((Oper.semAt r (act m tm d).eval _).run P W)
  have e : (execOp (opv m tm) ⟨some t, .call ⟨.value (.func f), xs.toArray, us⟩, ty, pos, af, g⟩).run P W = .ok (.enter f (xs.map (opv m tm)).toArray) W := by
    have hρ : opv m tm (.func f) = .func (.func f) #[] #[] := rfl
    simp [execOp, resolve, hρ, Deferred.ofValue, invoke, run_goes hf]
  rw [semAt_exec (by intro c h; cases h), eval_act, e, ha]
  refine ⟨(fun hd => by cases hd), ?_⟩
  refine (callsW (hc W (hW.focus i hL))).mono ?_
  rintro e W' ⟨x, hφ, rfl, hx⟩
  show OL r n P ops Q rest ((act m tm d).put (some t) (val x)) W'
  rw [put_act]
  exact h x hφ W' (hW.unfocus i hL hx)
theorem calls_enterB {f : FuncId} {fn : Func} {c : Code} {vs : List Value} {W : World} {R : Ending → World → Prop} (hf : P.funcs[f]? = some fn) (hb : fn.body = some c) (hn : fn.ntmps = m) (hl : vs.length ≤ m) (hW : Ext w0 W L)
    (h : CX none 8 P c (bodyPost P fn R) w0 L m (fun i => (vs[i]?).getD undef) []) : Calls P f vs.toArray W R := by
  refine callsW' (r := none) (n := 8) (callsIn_of_wp hf hb trivial ?_ rfl)
  rw [act_enter _ _ (by rw [hn]; simpa using hl), hn]
  have := h W hW
  simpa using this
end

section
variable {r : Option Nat} {n : Nat} {P : Program} {ρ : Operand → Value} {w0 : World} {L L' : List Res}
variable {t : Option Tmp} {ty : TypeId} {pos : String} {af : Array Edge} {g : Option (Nat × Bool)} {C C' : World → Prop}
theorem run_eqnil {W : World} {A : Option Addr} {l c : Nat} {e u : TypeId} (hu : P.underlying u = some (.slice e)) : (Op.equalIn 10000 u (.slice A l c) (.slice none 0 0)).run P W = .ok A.isNone W := by
  have h1 : (underlying u).run P W = .ok (.slice e) W := by simp [underlying, hu]
  unfold Op.equalIn
  simp only [Sem.run_bind, h1, Result.andThen_ok]
  cases A <;> rfl
theorem y_eqnil {x y : Operand} {A : Option Addr} {l c : Nat} {e u u' : TypeId} (hu : P.underlying u = some (.slice e)) (hx : ρ x = .slice A l c) (hy : ρ y = .slice none 0 0) : OpY r n P ⟨t, .binOp .eql u x y u', ty, pos, af, g⟩ ρ C C (.bool A.isNone) :=
  opY_val (by intro c h; cases h) (fun W _ => by
    have := run_eqnil (W := W) (A := A) (l := l) (c := c) hu
    simp [execOp, hx, hy, go_sem, binOp, Op.equal, Op.maxDepth, this])
theorem y_convertU {x : Operand} {u v : TypeId} {a : Int} (hu : P.underlying u = some (.int .i64)) (hv : P.underlying v = some (.int .u64)) (h : 0 ≤ a ∧ a ≤ 9223372036854775807) (hx : ρ x = .int .i64 a) : OpY r n P ⟨t, .convert u v x, ty, pos, af, g⟩ ρ C C (.int .u64 a) :=
  opY_val (by intro c h; cases h) (fun W _ => by
    have h2 : IntKind.u64.wrap a = a := by
      simp [IntKind.wrap, IntKind.bits, IntKind.signed]
      omega
    have h1 : (convert u v (.int .i64 a)).run P W = .ok (.int .u64 a) W := by
      simp [convert, underlying, hu, hv, Conv.intToInt, h2]
    simp [execOp, hx, h1])
theorem y_index4i {x ix : Operand} {u : TypeId} {a b c d : Int} {q k : IntKind} {i : Int} {e : TypeId} (hu : P.underlying u = some (.array 4 e)) (hs : scB P e = true) (h0 : 0 ≤ i) (h1 : i < 4) (hx : ρ x = .agg #[.int q a, .int q b, .int q c, .int q d]) (hi : ρ ix = .int k i) :
    OpY r n P ⟨t, .index u x ix, ty, pos, af, g⟩ ρ C C (.int q (sel4 a b c d i)) :=
  opY_val (by intro c h; cases h) (fun W _ => by
    have h2 : i < ((4 : Nat) : Int) := h1
    have h3 : i = 0 ∨ i = 1 ∨ i = 2 ∨ i = 3 := by omega
    rcases h3 with rfl | rfl | rfl | rfl <;>
      simp [execOp, hx, hi, Instr.index, asIntOf, underlying, hu, run_sizeOf_sc hs, part, run_isAgg_sc hs, sel4])
end
end Go.Proofs.Ytndajeiecdmhnaa
