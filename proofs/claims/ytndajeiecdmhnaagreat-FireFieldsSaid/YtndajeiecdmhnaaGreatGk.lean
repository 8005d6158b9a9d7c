/- A region that draws its order, with a variable's block that comes up at any time. -/
import Derived.Test.YtndajeiecdmhnaaGreatGj
namespace Go.Proofs.YtndajeiecdmhnaaGreat
open Go.RowKit (Below)

section
variable {r : Option Nat} {n : Nat} {P : Program} {ops : Array Oper} {Q : Exit → Act → World → Prop}

theorem quiet_step {k : Nat} (hO : orderB ops = true) (hkN : k ≤ ops.size) {a0 : Act} {vals : Nat → Value} {acts : Nat → Act} {C : World → Prop} (hst : ∀ m, acts m = stA ops vals a0 (fun _ => true) m)
    {listed : Array Bool} {W : World} (hC : C W) (hsz : listed.size = ops.size)
    (hcl : ∀ j oj, ops[j]? = some oj → listed.getD j false = true → ∀ e ∈ oj.after, Region.binds .any e = true → listed.getD e.on false = true)
    {i : Nat} {o : Oper} (hik : i < k) (hun : listed.getD i true = false) (ho : ops[i]? = some o) (hall : ∀ e ∈ o.after, Region.binds .any e = true → listed.getD e.on false = true)
    (hvals : (Region.wanted o (yielded ops (acts i).tmps) = true ∧ OpY r n P o (acts i).eval C C (vals i)) ∨ (Region.wanted o (yielded ops (acts i).tmps) = false ∧ vals i = undef)) {K : Act → World → Prop}
    (hK : ∀ W', C W' → K (stA ops vals a0 (fun j => (listed.setIfInBounds i true).getD j false) k) W') :
    wpOpIn (Fw r) n P ops (onlyN Q) i K (stA ops vals a0 (fun j => listed.getD j false) k) W := by
  rw [getD_bool (by omega) true false] at hun
  obtain ⟨hsel, hdef, _, hord⟩ := orderB_spec hO ho
  -- what it looks at is as in the text's order
  have hlook : ∀ j, j < k → (listed.getD j false) ≠ decide (j < i) → ∀ d, dstA ops j = some d → ¬ d ∈ o.looksAt ops := by
    intro j hj hne d hd hmem
    obtain ⟨oj, hoj⟩ : ∃ oj, ops[j]? = some oj := ⟨_, Array.getElem?_eq_some_iff.2 ⟨by omega, rfl⟩⟩
    have hdj : oj.dst = some d := by simpa [dstA, hoj] using hd
    rcases Nat.lt_trichotomy j i with h | h | h
    · -- not listed, yet the operation is ready: it does not wait for it
      have hl : listed.getD j false = false := by
        cases hl : listed.getD j false with
        | false => rfl
        | true => exact absurd (by rw [hl]; simp [h]) hne
      rcases hord j oj h hoj with hap | ⟨e, he, hb, hon⟩
      · exact (Oper.apart_spec hap).1 d hdj hmem
      · have := hall e he hb
        rw [hon, hl] at this; cases this
    · subst h
      exact absurd (by rw [hun]; simp) hne
    · have hl : listed.getD j false = true := by
        cases hl : listed.getD j false with
        | true => rfl
        | false => exact absurd (by rw [hl]; simp; omega) hne
      rcases (orderB_spec hO hoj).2.2.2 i o h ho with hap | ⟨e, he, hb, hon⟩
      · exact (Oper.apart_spec hap).2.2 d hdj hmem
      · have := hcl j oj hoj hl e he hb
        rw [hon, hun] at this; cases this
  have hag := stA_agree (ops := ops) vals a0 (fun x => x ∈ o.looksAt ops) (fun j => listed.getD j false) (fun j => decide (j < i)) k hlook
  have hlex : stA ops vals a0 (fun j => decide (j < i)) k = acts i := by
    rw [hst i]
    have h1 : ∀ m, m ≤ i → stA ops vals a0 (fun j => decide (j < i)) m = stA ops vals a0 (fun _ => true) m := by
      intro m
      induction m with
      | zero => intro _; rfl
      | succ m ih => intro hm; simp only [stA]; rw [ih (by omega)]; simp; omega
    have h2 : ∀ m, i ≤ m → stA ops vals a0 (fun j => decide (j < i)) m = stA ops vals a0 (fun j => decide (j < i)) i := by
      intro m
      induction m with
      | zero => intro h; have : i = 0 := by omega
                subst this; rfl
      | succ m ih =>
        intro hm
        by_cases e : i = m + 1
        · rw [e]
        · simp only [stA]
          rw [if_neg (by simp; omega)]
          exact ih (by omega)
    rw [h2 k (by omega), h1 i (Nat.le_refl _)]
  rw [hlex] at hag
  obtain ⟨hev, hwa⟩ := looks_same (ops := ops) (o := o) (a := stA ops vals a0 (fun j => listed.getD j false) k) (b := acts i) hag.1
  have hins : stA ops vals a0 (fun j => (listed.setIfInBounds i true).getD j false) k = (stA ops vals a0 (fun j => listed.getD j false) k).put o.dst (vals i) := by
    have e1 : (fun j => (listed.setIfInBounds i true).getD j false) = fun j => listed.getD j false || j == i := funext fun j => getD_set (by omega)
    rw [e1, stA_insert (ops := ops) vals a0 (fun j => listed.getD j false) i hun k hik (fun j h1 h2 hS d hd he => ?_)]
    · congr 1
      simp [dstA, ho]
    · obtain ⟨oj, hoj⟩ : ∃ oj, ops[j]? = some oj := ⟨_, Array.getElem?_eq_some_iff.2 ⟨by omega, rfl⟩⟩
      have hdj : oj.dst = some d := by simpa [dstA, hoj] using hd
      have hdi : o.dst = some d := by simpa [dstA, ho] using he
      rcases (orderB_spec hO hoj).2.2.2 i o h1 ho with hap | ⟨e, he, hb, hon⟩
      · exact (Oper.apart_spec hap).2.1 d hdi hdj
      · have := hcl j oj hoj hS e he hb
        rw [hon, hun] at this; cases this
  have hgo : ∀ W', C W' → K ((stA ops vals a0 (fun j => listed.getD j false) k).put o.dst (vals i)) W' := fun W' hC' => by
    rw [← hins]
    exact hK W' hC'
  unfold wpOpIn
  simp only [ho]
  rcases hvals with ⟨hw, hy⟩ | ⟨hw, hv⟩
  · rw [hwa, if_pos hw]
    refine wpIn_of_opY (opY_congr hsel hdef (fun x hx => (hev x hx).symm) hy) hC ?_
    exact hgo
  · rw [hwa, if_neg (by rw [hw]; simp)]
    refine ⟨fun _ _ => trivial, ?_⟩
    have := hgo W hC
    rwa [hv] at this


/-- The lexical walk of operations with a property of each. -/
def QWg (ops : Array Oper) (Y : Oper → (Operand → Value) → Value → Prop) (K : Act → Prop) : List Oper → Act → Prop
  | [], a => K a
  | o :: rest, a => if Region.wanted o (yielded ops a.tmps) then ∃ v, Y o a.eval v ∧ QWg ops Y K rest (a.put o.dst v) else QWg ops Y K rest (a.put o.dst undef)
theorem qwg_vals {Y : Oper → (Operand → Value) → Value → Prop} {K : Act → Prop} : ∀ (l : List Oper) (i0 : Nat) (a : Act), (∀ j, j < l.length → l[j]? = ops[i0 + j]?) → QWg ops Y K l a →
    ∃ (vals : Nat → Value) (acts : Nat → Act), acts 0 = a ∧ (∀ j, acts (j + 1) = (acts j).put (dstA ops (i0 + j)) (vals j)) ∧
      (∀ j o, j < l.length → ops[i0 + j]? = some o → (Region.wanted o (yielded ops (acts j).tmps) = true ∧ Y o (acts j).eval (vals j)) ∨ (Region.wanted o (yielded ops (acts j).tmps) = false ∧ vals j = undef)) ∧
      K (acts l.length)
  | [], i0, a, _, h => by
    have hK : K a := h
    exact ⟨fun _ => undef, fun j => Nat.rec a (fun j b => b.put (dstA ops (i0 + j)) undef) j, rfl, fun _ => rfl, (fun j o hj => by simp at hj), hK⟩
  | o :: rest, i0, a, hl, h => by
    have ho : ops[i0]? = some o := by simpa using (hl 0 (by simp)).symm
    have hl' : ∀ j, j < rest.length → rest[j]? = ops[i0 + 1 + j]? := fun j hj => by
      have := hl (j + 1) (by simp; omega)
      simpa [Nat.add_assoc, Nat.add_comm 1 j] using this
    have hdst : dstA ops i0 = o.dst := by simp [dstA, ho]
    have key : ∃ v, ((Region.wanted o (yielded ops a.tmps) = true ∧ Y o a.eval v) ∨ (Region.wanted o (yielded ops a.tmps) = false ∧ v = undef)) ∧ QWg ops Y K rest (a.put o.dst v) := by
      unfold QWg at h
      by_cases hw : Region.wanted o (yielded ops a.tmps) = true
      · rw [if_pos hw] at h
        obtain ⟨v, h1, h2⟩ := h
        exact ⟨v, .inl ⟨hw, h1⟩, h2⟩
      · rw [if_neg hw] at h
        exact ⟨undef, .inr ⟨by simpa using hw, rfl⟩, h⟩
    obtain ⟨v, hv, hq⟩ := key
    obtain ⟨vals, acts, h0, h1, h2, h3⟩ := qwg_vals rest (i0 + 1) _ hl' hq
    refine ⟨fun | 0 => v | j + 1 => vals j, fun | 0 => a | j + 1 => acts j, rfl, ?_, ?_, h3⟩
    · intro j
      cases j with
      | zero => show acts 0 = a.put (dstA ops (i0 + 0)) v; rw [h0, Nat.add_zero, hdst]
      | succ j => show acts (j + 1) = (acts j).put (dstA ops (i0 + (j + 1))) (vals j); rw [h1 j]; simp [Nat.add_assoc, Nat.add_comm 1 j]
    · intro j o' hj ho'
      cases j with
      | zero =>
        have : o' = o := by rw [Nat.add_zero, ho] at ho'; cases ho'; rfl
        subst this
        exact hv
      | succ j => exact h2 j o' (by simpa using hj) (by simpa [Nat.add_assoc, Nat.add_comm 1 j] using ho')


/-- A variable's block that waits for nothing. -/
def allocB (ops : Array Oper) (k : Nat) : Bool := match ops[k]? with
  | some ⟨some _, .alloc _, _, _, af, none⟩ => af.all fun e => !Region.binds .any e
  | _ => false
theorem wp_drawsA {l : List Oper} (k : Nat) (hm : P.follows .mixedOrders = true) (hO : orderB l.toArray = true) (hT : tailB l.toArray (k + 1) = true) (hA : allocB l.toArray k = true) {id : Nat} {a0 : Act} {W0 w0 : World} {L : List Res}
    (h0 : Ext w0 { W0 with drawn := W0.drawn + 1 } L)
    (hq : QWg l.toArray (fun o ρ v => ∀ L2, OpY r n P o ρ (fun W => Ext w0 W (L ++ L2)) (fun W => Ext w0 W (L ++ L2)) v) (fun a' => ∀ d e ty pos af, l[k]? = some ⟨some d, .alloc e, ty, pos, af, none⟩ →
      ∃ z, zeroOf P e = some z ∧ ∀ b W, Ext w0 W (L ++ [cellsR b e z.cells.toList]) → OL r n P l.toArray (onlyN Q) (l.drop (k + 1)) (a'.put (some d) (.pointer (some ⟨b, 0, none⟩))) W) (l.take k) a0) : (Code.region id l.toArray true).wpIn (Fw r) n P Q a0 W0 := by
  refine wpIn_mono (Q := onlyN Q) ?_ (fun e a w h => by obtain ⟨rfl, h⟩ := h; exact h)
  refine wpIn_region_any hm ?_
  obtain ⟨ops, hops⟩ : ∃ ops, ops = l.toArray := ⟨_, rfl⟩
  rw [← hops] at hO hT hA hq ⊢
  unfold tailB at hT
  simp only [Bool.and_eq_true, Bool.or_eq_true, decide_eq_true_eq] at hT
  obtain ⟨hkN, hT⟩ := hT
  have hkk : k < ops.size := by omega
  obtain ⟨dd, e, ty, pos, af, hok, haf⟩ : ∃ d e ty pos af, ops[k]? = some ⟨some d, .alloc e, ty, pos, af, none⟩ ∧ ∀ x ∈ af, Region.binds .any x = false := by
    unfold allocB at hA
    split at hA
    · rename_i d e ty pos af ho
      exact ⟨d, e, ty, pos, af, ho, fun x hx => by simpa using Array.all_eq_true'.1 hA x hx⟩
    · cases hA
  have hlen : (l.take k).length = k := by rw [hops] at hkk; simp at hkk; simp; omega
  obtain ⟨vals, acts, ha0, hacts, hvals, hK⟩ := qwg_vals (l.take k) 0 a0 (fun j hj => by
    rw [hlen] at hj
    rw [hops]; simp [hj]) hq
  rw [hlen] at hvals hK
  simp only [Nat.zero_add] at hacts hvals
  obtain ⟨z, hz, hK⟩ := hK dd e ty pos af (by rw [hops] at hok; simpa using hok)
  obtain ⟨inf, hinf, hzz⟩ : ∃ inf, P.info? e = some inf ∧ inf.zero = some z := by
    unfold zeroOf at hz
    cases hi : P.info? e with
    | none => rw [hi] at hz; cases hz
    | some inf => rw [hi] at hz; exact ⟨inf, rfl, hz⟩
  have hst : ∀ m, acts m = stA ops vals a0 (fun _ => true) m := by
    intro m
    induction m with
    | zero => exact ha0
    | succ m ih => rw [hacts m, ih]; simp [stA]
  have hfr0 : (k + 1) = ops.size ∨ (List.range (k + 1)).all (fun i => [k].contains i || (List.range (k + 1 + 1)).any fun j => decide (i < j) && tailB.Region.waitsB ops j i) = true ∧ ((List.range ops.size).all fun t => decide (t ≤ k + 1) || tailB.Region.waitsB ops t (t - 1)) = true := by
    rcases hT with h | h
    · exact .inl h
    · refine .inr ⟨?_, h.2⟩
      rw [List.all_eq_true] at *
      intro i hi
      rw [h.1 i hi, Bool.or_true]
  have hfr1 : (k + 1) = ops.size ∨ (List.range (k + 1)).all (fun i => ([] : List Nat).contains i || (List.range (k + 1 + 1)).any fun j => decide (i < j) && tailB.Region.waitsB ops j i) = true ∧ ((List.range ops.size).all fun t => decide (t ≤ k + 1) || tailB.Region.waitsB ops t (t - 1)) = true := by
    rcases hT with h | h
    · exact .inl h
    · refine .inr ⟨?_, h.2⟩
      rw [List.all_eq_true] at *
      intro i hi
      rw [h.1 i hi, Bool.or_true]
  have hsink := sink (fr := []) hkN hfr1
  have main : ∀ (c : Nat) (listed : Array Bool) (W : World), Ext w0 W L → listed.size = ops.size → left listed k = c →
      (∀ j oj, ops[j]? = some oj → listed.getD j false = true → ∀ e ∈ oj.after, Region.binds .any e = true → listed.getD e.on false = true) →
      (∀ t, k ≤ t → t < ops.size → listed.getD t false = false) →
      wpAnyIn (Fw r) n P .any ops (onlyN Q) (c + (ops.size - k)) listed (stA ops vals a0 (fun j => listed.getD j false) k) W := by
    intro c
    induction c using Nat.strongRecOn with
    | _ c ih =>
    intro listed W hC hsz hc hcl htl
    have hunk : listed.getD k false = false := htl k (Nat.le_refl _) hkk
    have hrk : k ∈ Region.ready .any ops listed := mem_ready.2 ⟨by rw [getD_bool (by omega) true false]; exact hunk, _, hok, fun x hx hb => by rw [haf x hx] at hb; cases hb⟩
    rw [show c + (ops.size - k) = (c + (ops.size - (k + 1))) + 1 by omega]
    refine ⟨fun h => (by rw [h] at hrk; cases hrk), fun i hi => ?_⟩
    rcases Nat.lt_trichotomy i k with hik | hik | hik
    · obtain ⟨hun, o, ho, hall⟩ := mem_ready.1 hi
      have hun' := hun
      rw [getD_bool (by omega) true false] at hun'
      have hl := left_set (by omega) hun' k hik
      refine quiet_step (r := r) (C := fun W => Ext w0 W L) hO (by omega) hst hC hsz hcl hik hun ho hall ?_ (fun W' hC' => ?_)
      · rcases hvals i o hik ho with ⟨h1, h2⟩ | h1
        · refine .inl ⟨h1, ?_⟩
          have := h2 []
          rw [List.append_nil] at this
          exact this
        · exact .inr h1
      · have := ih (left (listed.setIfInBounds i true) k) (by omega) (listed.setIfInBounds i true) W' hC' (by simpa using hsz) rfl (fun j oj hoj hlj e he hb => by
          rw [getD_set (by omega)] at hlj ⊢
          by_cases e' : j = i
          · subst e'
            rw [ho] at hoj; cases hoj
            rw [hall e he hb]; rfl
          · have : (j == i) = false := by simpa using e'
            rw [this, Bool.or_false] at hlj
            rw [hcl j oj hoj hlj e he hb]; rfl) (fun t h1 h2 => by
          rw [getD_set (by omega), htl t h1 h2]
          simp; omega)
        rw [show left (listed.setIfInBounds i true) k + (ops.size - k) = c + (ops.size - (k + 1)) by omega] at this
        exact this
    · subst hik
      unfold wpOpIn
      simp only [hok]
      rw [if_pos (show Region.wanted (⟨some dd, .alloc e, ty, pos, af, none⟩ : Oper) _ = true from rfl)]
      refine ⟨fun _ _ => by cases r <;> trivial, ?_⟩
      have hrun : ((⟨some dd, .alloc e, ty, pos, af, none⟩ : Oper).semAt (Fw r).round (stA ops vals a0 (fun j => listed.getD j false) i).eval).run P W = .ok (.value (.pointer (some ⟨W.heap.size, 0, none⟩))) (W.alloc (.cells z.cells e)) := by
        have e0 : (Fw r).round = r := by cases r <;> rfl
        rw [e0, semAt_exec (by intro c h; cases h)]
        simp only [execOp, Instr.alloc, zeroValue, typeInfo, newVar, newRow]
        simp [hinf, hzz]
      rw [hrun]
      have hW2 : Ext w0 (W.alloc (.cells z.cells e)) (L ++ [cellsR W.heap.size e z.cells.toList]) := by
        have := hC.alloc (.cells z.cells e)
        simpa [cellsR] using this
      generalize hb0 : W.heap.size = b at hW2 hrun
      show wpAnyIn (Fw r) n P .any ops (onlyN Q) _ _ _ _
      have hvb : ∀ m, m ≤ i → stA ops (fun j => if j = i then .pointer (some ⟨b, 0, none⟩) else vals j) a0 (fun _ => true) m = acts m := by
        intro m
        induction m with
        | zero => intro _; exact ha0.symm
        | succ m ihm => intro hm; rw [hacts m, ← ihm (by omega)]; simp [stA]; rw [if_neg (by omega)]
      have hvl : ∀ m, m ≤ i → stA ops (fun j => if j = i then .pointer (some ⟨b, 0, none⟩) else vals j) a0 (fun j => (listed.setIfInBounds i true).getD j false) m = stA ops vals a0 (fun j => listed.getD j false) m := by
        intro m
        induction m with
        | zero => intro _; rfl
        | succ m ihm =>
          intro hm
          simp only [stA]
          rw [ihm (by omega), getD_set (by omega), if_neg (show ¬ m = i by omega)]
          have : (m == i) = false := by simp; omega
          rw [this, Bool.or_false]
      have hli : (listed.setIfInBounds i true).getD i false = true := by rw [getD_set (by omega)]; simp
      have hdi : dstA ops i = some dd := by simp [dstA, hok]
      have := any_quiet (r := r) (n := n) (P := P) (Q := Q) hops [i] (k := i + 1) hO hkN hfr0 (a0 := a0) (vals := fun j => if j = i then .pointer (some ⟨b, 0, none⟩) else vals j)
        (acts := stA ops (fun j => if j = i then .pointer (some ⟨b, 0, none⟩) else vals j) a0 (fun _ => true)) (C := fun W => Ext w0 W (L ++ [cellsR b e z.cells.toList])) (fun _ => rfl)
        (fun j o hj hne ho => by
          have hji : j < i := by
            have : j ≠ i := fun h => hne (by simp [h])
            omega
          rw [hvb j (by omega)]
          simp only [if_neg (show ¬ j = i by omega)]
          rcases hvals j o hji ho with ⟨h1, h2⟩ | h1
          · exact .inl ⟨h1, h2 _⟩
          · exact .inr h1)
        (fun W' hW' => by
          have e9 : stA ops (fun j => if j = i then .pointer (some ⟨b, 0, none⟩) else vals j) a0 (fun _ => true) (i + 1) = (acts i).put (some dd) (.pointer (some ⟨b, 0, none⟩)) := by
            simp only [stA]
            rw [hvb i (Nat.le_refl _), hdi]
            simp
          rw [e9]
          exact hK b W' hW')
        c (listed.setIfInBounds i true) _ hW2 (by simpa using hsz) (by
          rw [← hc]
          unfold left
          rw [List.range_succ, List.filter_append, List.length_append, List.filter_cons_of_neg (by rw [hli]; simp)]
          simp only [List.filter_nil, List.length_nil, Nat.add_zero]
          congr 1
          exact List.filter_congr fun j hj => by
            have := List.mem_range.1 hj
            rw [getD_set (by omega)]
            have : (j == i) = false := by simp; omega
            rw [this, Bool.or_false])
        (fun j oj hoj hlj e' he hb => by
          rw [getD_set (by omega)] at hlj ⊢
          by_cases e2 : j = i
          · subst e2
            rw [hok] at hoj; cases hoj
            rw [haf e' he] at hb; cases hb
          · have : (j == i) = false := by simpa using e2
            rw [this, Bool.or_false] at hlj
            rw [hcl j oj hoj hlj e' he hb]; rfl)
        (fun t h1 h2 => by
          rw [getD_set (by omega), htl t (by omega) h2]
          simp; omega)
        (fun j hj => by rw [List.mem_singleton.1 hj]; exact hli)
      have e9 : stA ops (fun j => if j = i then .pointer (some ⟨b, 0, none⟩) else vals j) a0 (fun j => (listed.setIfInBounds i true).getD j false) (i + 1) = (stA ops vals a0 (fun j => listed.getD j false) i).put (some dd) (.pointer (some ⟨b, 0, none⟩)) := by
        simp only [stA]
        rw [hvl i (Nat.le_refl _), hdi, hli]
        simp
      rw [e9] at this
      exact this
    · exact absurd hi (hsink listed hsz hcl (fun t h1 h2 => htl t (by omega) h2) (fun i hi => absurd hi List.not_mem_nil) _ k rfl (by omega) hunk i hik)
  have hfin := main (left (Array.replicate ops.size false) k) (Array.replicate ops.size false) _ h0 (by simp) rfl (fun j oj hoj hl => by
    have : j < ops.size := (Array.getElem?_eq_some_iff.1 hoj).1
    simp [this] at hl) (fun t _ h => by simp [h])
  have e1 : left (Array.replicate ops.size false) k + (ops.size - k) = ops.size := by
    have : left (Array.replicate ops.size false) k = k := by
      unfold left
      rw [List.filter_eq_self.2 fun j hj => ?_]
      · simp
      · have := List.mem_range.1 hj
        simp [show j < ops.size by omega]
    omega
  have e2 : stA ops vals a0 (fun j => (Array.replicate ops.size false).getD j false) k = a0 := by
    have : ∀ m, m ≤ k → stA ops vals a0 (fun j => (Array.replicate ops.size false).getD j false) m = a0 := by
      intro m
      induction m with
      | zero => intro _; rfl
      | succ m ih => intro hm; simp only [stA]; rw [ih (by omega)]; simp [show m < ops.size by omega]
    exact this k (Nat.le_refl _)
  rw [e1, e2] at hfin
  exact hfin
end

section
variable {r : Option Nat} {n : Nat} {P : Program} {ops : Array Oper} {Q : Exit → Act → World → Prop} {w0 : World} {L : List Res} {m : Nat} {tm : Nat → Value} {d : List Deferred}
variable {t : Tmp} {ty : TypeId} {pos : String} {af : Array Edge} {g : Option (Nat × Bool)} {l rest : List Oper}
/-- The quiet ones, whatever else is laid beside. -/
def AX (r : Option Nat) (n : Nat) (P : Program) (ops : Array Oper) (Q : Exit → Act → World → Prop) (w0 : World) (L : List Res) (k : Nat) (all : List Oper) (l : List Oper) (m : Nat) (tm : Nat → Value) (d : List Deferred) : Prop :=
  QWg ops (fun o ρ v => ∀ L2, OpY r n P o ρ (fun W => Ext w0 W (L ++ L2)) (fun W => Ext w0 W (L ++ L2)) v) (fun a' => ∀ d e ty pos af, all[k]? = some ⟨some d, .alloc e, ty, pos, af, none⟩ →
      ∃ z, zeroOf P e = some z ∧ ∀ b W, Ext w0 W (L ++ [cellsR b e z.cells.toList]) → OL r n P ops (onlyN Q) (all.drop (k + 1)) (a'.put (some d) (.pointer (some ⟨b, 0, none⟩))) W) l (act m tm d)
theorem cx_drawsA (k : Nat) {id : Nat} {l : List Oper} (hm : P.follows .mixedOrders = true) (hO : orderB l.toArray = true) (hT : tailB l.toArray (k + 1) = true) (hA : allocB l.toArray k = true)
    (h : AX r n P l.toArray Q w0 L k l (l.take k) m tm d) : CX r n P (.region id l.toArray true) Q w0 L m tm d :=
  fun _ hW => wp_drawsA k hm hO hT hA hW.drawn h
theorem ax_y {k : Nat} {all : List Oper} {op : Op} {v : Value} (hw : seesB ops m tm ⟨some t, op, ty, pos, af, g⟩ = true) (hy : ∀ L2, OpY r n P ⟨some t, op, ty, pos, af, g⟩ (opv m tm) (fun W => Ext w0 W (L ++ L2)) (fun W => Ext w0 W (L ++ L2)) v)
    (h : AX r n P ops Q w0 L k all rest m (upd tm t v) d) : AX r n P ops Q w0 L k all (⟨some t, op, ty, pos, af, g⟩ :: rest) m tm d := by
  unfold AX QWg
  rw [wanted_act, if_pos hw, eval_act]
  refine ⟨v, hy, ?_⟩
  rw [put_act]
  exact h
theorem ax_nil {k : Nat} {all : List Oper} {e : TypeId} {z : Value} (hk : all[k]? = some ⟨some t, .alloc e, ty, pos, af, none⟩) (hz : zeroOf P e = some z)
    (h : ∀ b, OX r n P ops (onlyN Q) w0 (L ++ [cellsR b e z.cells.toList]) (all.drop (k + 1)) m (upd tm t (.pointer (some ⟨b, 0, none⟩))) d) : AX r n P ops Q w0 L k all [] m tm d := by
  unfold AX QWg
  intro d' e' ty' pos' af' hk'
  rw [hk] at hk'
  simp only [Option.some.injEq, Oper.mk.injEq, Op.alloc.injEq, and_true] at hk'
  obtain ⟨rfl, rfl, _, _, _⟩ := hk'
  refine ⟨z, hz, fun b W hW => ?_⟩
  rw [put_act]
  exact h b W hW
end

end Go.Proofs.YtndajeiecdmhnaaGreat
