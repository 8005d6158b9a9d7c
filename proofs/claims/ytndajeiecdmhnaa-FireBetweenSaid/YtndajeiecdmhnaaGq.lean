/- Words for walks: maps from numbers to numbers. -/
import Derived.Test.YtndajeiecdmhnaaGo
import Derived.Maps.Own
import Derived.Maps.Views
namespace Go.Proofs.Ytndajeiecdmhnaa
open Go.RowKit (Below)

/-- Block b is a map that reads as the list of what was put into it, the last one first. -/
def mapR (P : Program) (kt et : TypeId) (b : Nat) (m : List (Int × Int)) : Res where
  dom c := c = b
  holds W := ∃ D : DataW Unit, W.ownsMap P kt (plainElem P et) b m.length D ∧ Maps.IsMap D ∧ ∀ x : Int, rngB x = true → D.atKey (.int .i64 x) (.lit (.int .i64 0)) = .lit (.int .i64 (mget m x))
  loc W W' h _ hh := by
    obtain ⟨D, ⟨es, clock, hb, h1⟩, h2⟩ := hh
    exact ⟨D, ⟨es, clock, (h b rfl).trans hb, h1⟩, h2⟩
  inb W h c hc := by
    obtain ⟨D, h1, _⟩ := h
    have hc' : c = b := hc
    rw [hc']
    exact h1.lt
theorem rngB_wf {x : Int} (h : rngB x = true) : (Lit.int .i64 x).wf = true := by
  unfold rngB at h
  simp only [Bool.and_eq_true, decide_eq_true_eq] at h
  have h1 : IntKind.i64.min = -9223372036854775808 := by decide
  have h2 : IntKind.i64.max = 9223372036854775807 := by decide
  simp [Lit.wf, h1, h2]
  omega
section
variable {P : Program} {w0 : World} {L : List Res}
theorem zero_run {W : World} {e : TypeId} {z : Value} (h : zeroOf P e = some z) : (zeroValue e).run P W = .ok z W := by
  unfold zeroOf at h
  cases hi : P.info? e with
  | none => rw [hi] at h; cases h
  | some inf =>
    rw [hi] at h
    have h' : inf.zero = some z := h
    simp [zeroValue, typeInfo, hi, h']
theorem Cy.map {B : Nat} {kt et : TypeId} {b : Nat} {m : List (Int × Int)} (h : b < B) : Cy B (mapR P kt et b m) := fun W c _ hc => by
  have hc' : c = b := hc
  exact .inl (by omega)
end
section
variable {r : Option Nat} {n : Nat} {P : Program} {ρ : Operand → Value} {w0 : World} {L : List Res}
variable {t : Option Tmp} {ty : TypeId} {pos : String} {af : Array Edge} {g : Option (Nat × Bool)}
theorem keyI {kt : TypeId} (hk : P.underlying kt = some (.int .i64)) {x : Int} (h : rngB x = true) : keyOf P kt (.int .i64 x) = some (.int .i64 x) := by
  have := rngB_wf h
  simp [keyOf, hk, mapKey, this]
/-- 'm[k]'. -/
theorem y_lookup (i : Nat) {kt et mt b : Nat} {m : List (Int × Int)} {x y : Operand} {k : Int} (hm : P.underlying mt = some (.map kt et)) (hk : P.underlying kt = some (.int .i64)) (he : P.underlying et = some (.int .i64)) (hz : zeroOf P et = some (.int .i64 0))
    (hL : L[i]? = some (mapR P kt et b m)) (hx : ρ x = .map (some b)) (hy : ρ y = .int .i64 k) (hr : rngB k = true) :
    OpY r n P ⟨t, .lookup mt x y false, ty, pos, af, g⟩ ρ (fun W => Ext w0 W L) (fun W => Ext w0 W L) (.int .i64 (mget m k)) :=
  opY_val (by intro c h; cases h) (fun W hW => by
    obtain ⟨D, h1, _, h3⟩ := hW.mem hL
    obtain ⟨c, hrun, hat, _⟩ := h1.lookup_int (Maps.int_keyed hk) hm he (zero_run hz) (keyI hk hr)
    rw [h3 k hr] at hat
    have : c = mget m k := by cases hat; rfl
    subst this
    simp [execOp, hx, hy, hrun])
/-- 'm[k] = v'. -/
theorem y_mapUpdate (i : Nat) {kt et mt b : Nat} {m : List (Int × Int)} {x y z : Operand} {k v : Int} (hm : P.underlying mt = some (.map kt et)) (hk : P.underlying kt = some (.int .i64)) (he : P.underlying et = some (.int .i64))
    (hL : L[i]? = some (mapR P kt et b m)) (hx : ρ x = .map (some b)) (hy : ρ y = .int .i64 k) (hv : ρ z = .int .i64 v) (hr : rngB k = true ∧ rngB v = true ∧ m.length < 1000000) :
    OpY r n P ⟨t, .mapUpdate mt x y z, ty, pos, af, g⟩ ρ (fun W => Ext w0 W L) (fun W => Ext w0 W (L.set i (mapR P kt et b ((k, v) :: m)))) undef :=
  opY_skip (by intro c h; cases h) (fun W hW => by
    obtain ⟨D, h1, h2, h3⟩ := hW.mem hL
    obtain ⟨W', hrun, hown, hg⟩ := h1.update (Maps.int_keyed hk) hm (by simp only [maxLen]; omega) (keyI hk hr.1) (plainElem_int he (rngB_wf hr.2.1))
    refine ⟨W', by simp [execOp, hx, hy, hv, hrun], ?_⟩
    refine hW.set hL (mapR P kt et b ((k, v) :: m)) ⟨_, hown, h2.put _ _, fun q hq => ?_⟩ hg.os hg.tape hg.output hg.size (fun c hc hn => hg.block c hc (fun e => hn (by cases e; rfl))) (fun c hc => .inl hc)
    unfold mget
    by_cases e : k = q
    · subst e
      rw [Maps.atKey_put_same h2 (Maps.Keyed.key (Maps.int_keyed hk) (keyI hk hr.1))]
      simp
    · rw [Maps.atKey_put_other (by intro h; cases h; exact e rfl), h3 q hq]
      unfold mget
      simp [e])
end
section
variable {r : Option Nat} {n : Nat} {P : Program} {ops : Array Oper} {Q : Exit → Act → World → Prop} {w0 : World} {L : List Res} {m : Nat} {tm : Nat → Value} {d : List Deferred}
variable {t : Tmp} {ty : TypeId} {pos : String} {af : Array Edge} {g : Option (Nat × Bool)} {l rest : List Oper}
theorem ox_makeMap (kt et : TypeId) {mt : TypeId} (hw : seesB ops m tm ⟨some t, .makeMap mt none, ty, pos, af, g⟩ = true)
    (h : ∀ b, OX r n P ops Q w0 (L ++ [mapR P kt et b []]) rest m (upd tm t (.map (some b))) d) : OX r n P ops Q w0 L (⟨some t, .makeMap mt none, ty, pos, af, g⟩ :: rest) m tm d :=
  ox_step hw (by intro c h; cases h) fun W hW => by
    refine ⟨_, W.alloc (.map #[] 0), _, ?_, ?_, h W.heap.size⟩
    · simp [execOp, Instr.makeMap, newObj]
      rfl
    · have h7 : Ext w0 (W.alloc (.map #[] 0)) L := hW.keep (hW.below.alloc hW.size _) (by simp) (fun i p hp b hd => Below.heap_alloc W _ b (p.inb W (hW.all i p hp) b hd))
      refine h7.snoc (p := mapR P kt et W.heap.size []) ⟨_, World.ownsMap_made W P kt _, ⟨_, rfl⟩, fun x _ => rfl⟩ (fun b hb => ?_) (fun i q hq b hb hb' => ?_)
      · have hb' : b = W.heap.size := hb
        have := hW.size
        omega
      · have hb'' : b = W.heap.size := hb'
        have := q.inb W (hW.all i q hq) _ hb
        omega
end
end Go.Proofs.Ytndajeiecdmhnaa
