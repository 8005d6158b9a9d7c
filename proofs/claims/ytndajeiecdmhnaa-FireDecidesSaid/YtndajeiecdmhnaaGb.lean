/- A region that draws its order, walked in the text's order: its first k operations stay in a class of worlds, the others come up behind them, one behind the other. -/
import Derived.Test.YtndajeiecdmhnaaGa
namespace Go.Proofs.Ytndajeiecdmhnaa
open Go.RowKit (Below)

section
variable {r : Option Nat} {n : Nat} {P : Program} {ops : Array Oper}

def dstA (ops : Array Oper) (i : Nat) : Option Tmp := (ops[i]?).bind (·.dst)
/-- The frame behind the operations of S that lie below m. -/
def stA (ops : Array Oper) (vals : Nat → Value) (a0 : Act) (S : Nat → Bool) : Nat → Act
  | 0 => a0
  | m + 1 => if S m then (stA ops vals a0 S m).put (dstA ops m) (vals m) else stA ops vals a0 S m

theorem put_get (a : Act) (d : Option Tmp) (v : Value) (x : Nat) (h : d ≠ some x) : (a.put d v).tmps[x]? = a.tmps[x]? := by
  cases d with
  | none => rfl
  | some d =>
    show (a.tmps.setIfInBounds d v)[x]? = _
    rw [Array.getElem?_setIfInBounds, if_neg (fun e => h (by rw [e]))]
theorem put_get' (a b : Act) (d : Option Tmp) (v : Value) (x : Nat) (h : a.tmps[x]? = b.tmps[x]?) : (a.put d v).tmps[x]? = (b.put d v).tmps[x]? := by
  cases d with
  | none => exact h
  | some d =>
    show (a.tmps.setIfInBounds d v)[x]? = (b.tmps.setIfInBounds d v)[x]?
    rw [Array.getElem?_setIfInBounds, Array.getElem?_setIfInBounds, h]
    have hs : x < a.tmps.size ↔ x < b.tmps.size := by
      constructor
      · intro hx
        apply Classical.byContradiction
        intro hn
        rw [Array.getElem?_eq_none (xs := b.tmps) (by omega), Array.getElem?_eq_getElem hx] at h
        cases h
      · intro hx
        apply Classical.byContradiction
        intro hn
        rw [Array.getElem?_eq_none (xs := a.tmps) (by omega), Array.getElem?_eq_getElem hx] at h
        cases h
    by_cases e : d = x
    · subst e
      simp only [if_true]
      by_cases h1 : d < a.tmps.size
      · rw [if_pos h1, if_pos (hs.1 h1)]
      · rw [if_neg h1, if_neg (fun h2 => h1 (hs.2 h2))]
    · rw [if_neg e, if_neg e]
theorem put_defs (a : Act) (d : Option Tmp) (v : Value) : (a.put d v).defers = a.defers := by cases d <;> rfl

theorem stA_agree (vals : Nat → Value) (a0 : Act) (X : Nat → Prop) (S T : Nat → Bool) : ∀ m : Nat, (∀ j, j < m → S j ≠ T j → ∀ d, dstA ops j = some d → ¬ X d) →
    (∀ x, X x → (stA ops vals a0 S m).tmps[x]? = (stA ops vals a0 T m).tmps[x]?) ∧ (stA ops vals a0 S m).defers = (stA ops vals a0 T m).defers
  | 0, _ => ⟨fun _ _ => rfl, rfl⟩
  | m + 1, h => by
    obtain ⟨h1, h2⟩ := stA_agree vals a0 X S T m (fun j hj => h j (by omega))
    have hm := h m (by omega)
    simp only [stA]
    cases hS : S m <;> cases hT : T m
    · simpa using ⟨h1, h2⟩
    · have hd := hm (by simp [hS, hT])
      simp only [Bool.false_eq_true, if_false, if_true]
      exact ⟨fun x hx => by rw [put_get _ _ _ _ (fun e => hd x e hx)]; exact h1 x hx, by rw [put_defs]; exact h2⟩
    · have hd := hm (by simp [hS, hT])
      simp only [Bool.false_eq_true, if_false, if_true]
      exact ⟨fun x hx => by rw [put_get _ _ _ _ (fun e => hd x e hx)]; exact h1 x hx, by rw [put_defs]; exact h2⟩
    · simp only [if_true]
      exact ⟨fun x hx => put_get' _ _ _ _ _ (h1 x hx), by rw [put_defs, put_defs]; exact h2⟩

theorem stA_insert (vals : Nat → Value) (a0 : Act) (S : Nat → Bool) (i : Nat) (hi : S i = false) : ∀ m : Nat, i < m →
    (∀ j, i < j → j < m → S j = true → ∀ d, dstA ops j = some d → dstA ops i ≠ some d) →
    stA ops vals a0 (fun j => S j || j == i) m = (stA ops vals a0 S m).put (dstA ops i) (vals i)
  | 0, h, _ => by omega
  | m + 1, h, hd => by
    simp only [stA]
    by_cases e : i = m
    · subst e
      have : ∀ q, q ≤ i → stA ops vals a0 (fun j => S j || j == i) q = stA ops vals a0 S q := by
        intro q
        induction q with
        | zero => intro _; rfl
        | succ q ih =>
          intro hq
          have hne : (q == i) = false := by simp; omega
          simp only [stA, hne, Bool.or_false, ih (by omega)]
      simp [hi, this i (Nat.le_refl _)]
    · have ih := stA_insert vals a0 S i hi m (by omega) (fun j h1 h2 => hd j h1 (by omega))
      have hne : (m == i) = false := by simp; omega
      simp only [hne, Bool.or_false, ih]
      by_cases hS : S m = true
      · simp only [hS, if_true]
        exact Act.put_comm _ _ _ (fun d h1 h2 => hd m (by omega) (by omega) hS d h2 h1)
      · simp only [hS, Bool.false_eq_true, if_false]

theorem eval_of_get {a b : Act} {t : Nat} (h : a.tmps[t]? = b.tmps[t]?) : a.eval (.tmp t) = b.eval (.tmp t) := by
  show a.tmps.getD t undef = b.tmps.getD t undef
  rw [Array.getD_eq_getD_getElem?, Array.getD_eq_getD_getElem?, h]

/-- Frames that agree on what an operation looks at. -/
theorem looks_same {o : Oper} {a b : Act} (h : ∀ x, x ∈ o.looksAt ops → a.tmps[x]? = b.tmps[x]?) :
    (∀ x ∈ o.op.operands, a.eval x = b.eval x) ∧ Region.wanted o (yielded ops a.tmps) = Region.wanted o (yielded ops b.tmps) := by
  constructor
  · intro x hx
    cases x with
    | tmp t =>
      refine eval_of_get (h t ?_)
      unfold Oper.looksAt
      exact List.mem_append_left _ (List.mem_filterMap.2 ⟨.tmp t, by simpa using hx, rfl⟩)
    | _ => rfl
  · unfold Region.wanted
    cases hg : o.guard with
    | none => rfl
    | some p =>
      obtain ⟨j, want⟩ := p
      simp only [yielded]
      cases hd : (ops[j]?).bind (·.dst) with
      | none => rfl
      | some d =>
        simp only [Option.bind_some]
        rw [h d (by unfold Oper.looksAt; rw [hg]; exact List.mem_append_right _ (by simp [hd]))]

theorem opY_congr {o : Oper} (hs : ∀ cs b, o.op ≠ .select cs b) (hd : ∀ c, o.op ≠ .defer c) {ρ ρ' : Operand → Value} (h : ∀ x ∈ o.op.operands, ρ x = ρ' x) {C C' : World → Prop} {v : Value}
    (hy : OpY r n P o ρ C C' v) : OpY r n P o ρ' C C' v := by
  have e : o.semAt r ρ' = o.semAt r ρ := by
    have e1 : execOp ρ' o = execOp ρ o := execOp_congr o hs (fun x hx => (h x hx).symm)
    cases r with
    | none => rw [Oper.semAt_none, Oper.semAt_none, e1]
    | some l => rw [Oper.semAt_some l _ o hd, Oper.semAt_some l _ o hd, e1]
  unfold OpY
  rw [e]
  exact hy

theorem qw_vals {C : World → Prop} {K : Act → Prop} : ∀ (l : List Oper) (i0 : Nat) (a : Act), (∀ j, j < l.length → l[j]? = ops[i0 + j]?) → QW r n P ops C K l a →
    ∃ (vals : Nat → Value) (acts : Nat → Act), acts 0 = a ∧ (∀ j, acts (j + 1) = (acts j).put (dstA ops (i0 + j)) (vals j)) ∧
      (∀ j o, j < l.length → ops[i0 + j]? = some o → (Region.wanted o (yielded ops (acts j).tmps) = true ∧ OpY r n P o (acts j).eval C C (vals j)) ∨ (Region.wanted o (yielded ops (acts j).tmps) = false ∧ vals j = undef)) ∧
      K (acts l.length)
  | [], i0, a, _, h => by
    have hK : K a := h
    exact ⟨fun _ => undef, fun j => Nat.rec a (fun j b => b.put (dstA ops (i0 + j)) undef) j, rfl, fun _ => rfl, (fun j o hj => by simp at hj), hK⟩
  | o :: rest, i0, a, hl, h => by
    have ho : ops[i0]? = some o := by simpa using (hl 0 (by simp)).symm
    have hl' : ∀ j, j < rest.length → rest[j]? = ops[i0 + 1 + j]? := fun j hj => by
      have := hl (j + 1) (by simp; omega)
      simpa [Nat.add_assoc, Nat.add_comm 1 j] using this
    have hdst : dstA ops i0 = o.dst := by simp [dstA, ho]
    have key : ∃ v, ((Region.wanted o (yielded ops a.tmps) = true ∧ OpY r n P o a.eval C C v) ∨ (Region.wanted o (yielded ops a.tmps) = false ∧ v = undef)) ∧ QW r n P ops C K rest (a.put o.dst v) := by
      unfold QW at h
      by_cases hw : Region.wanted o (yielded ops a.tmps) = true
      · rw [if_pos hw] at h
        obtain ⟨v, h1, h2⟩ := h
        exact ⟨v, .inl ⟨hw, h1⟩, h2⟩
      · rw [if_neg hw] at h
        exact ⟨undef, .inr ⟨by simpa using hw, rfl⟩, h⟩
    obtain ⟨v, hv, hq⟩ := key
    obtain ⟨vals, acts, h0, h1, h2, h3⟩ := qw_vals rest (i0 + 1) _ hl' hq
    refine ⟨fun | 0 => v | j + 1 => vals j, fun | 0 => a | j + 1 => acts j, rfl, ?_, ?_, h3⟩
    · intro j
      cases j with
      | zero => show acts 0 = a.put (dstA ops (i0 + 0)) v; rw [h0, Nat.add_zero, hdst]
      | succ j => show acts (j + 1) = (acts j).put (dstA ops (i0 + (j + 1))) (vals j); rw [h1 j]; simp [Nat.add_assoc, Nat.add_comm 1 j]
    · intro j o' hj ho'
      cases j with
      | zero =>
        have : o' = o := by rw [Nat.add_zero, ho] at ho'; cases ho'; rfl
        subst this
        exact hv
      | succ j => exact h2 j o' (by simpa using hj) (by simpa [Nat.add_assoc, Nat.add_comm 1 j] using ho')

theorem orderB_spec (h : orderB ops = true) {j : Nat} {oj : Oper} (hj : ops[j]? = some oj) :
    (∀ cs b, oj.op ≠ .select cs b) ∧ (∀ c, oj.op ≠ .defer c) ∧ (∀ e ∈ oj.after, Region.binds .any e = true → e.on < j) ∧
    ∀ i oi, i < j → ops[i]? = some oi → oi.apart ops oj = true ∨ ∃ e ∈ oj.after, Region.binds .any e = true ∧ e.on = i := by
  unfold orderB at h
  have hlt : j < ops.size := (Array.getElem?_eq_some_iff.1 hj).1
  have h1 := List.all_eq_true.1 h j (List.mem_range.2 hlt)
  simp only [hj, Bool.and_eq_true] at h1
  obtain ⟨⟨h2, h3⟩, h4⟩ := h1
  refine ⟨(fun cs b e => by rw [e] at h2; cases h2), (fun c e => by rw [e] at h2; cases h2), fun e he hb => ?_, fun i oi hi hoi => ?_⟩
  · have := (Array.all_eq_true'.1 h3) e he
    rw [hb] at this
    simpa using this
  · have h5 := List.all_eq_true.1 h4 i (List.mem_range.2 hi)
    simp only [hoi, Bool.or_eq_true] at h5
    rcases h5 with h5 | h5
    · exact .inl h5
    · obtain ⟨e, he, hb⟩ := Array.any_eq_true'.1 h5
      simp only [Bool.and_eq_true, beq_iff_eq] at hb
      exact .inr ⟨e, he, hb.1, hb.2⟩

theorem waitsB_spec {j i : Nat} (h : tailB.Region.waitsB ops j i = true) : ∃ oj, ops[j]? = some oj ∧ ∃ e ∈ oj.after, Region.binds .any e = true ∧ e.on = i := by
  unfold tailB.Region.waitsB at h
  split at h
  · rename_i oj hj
    obtain ⟨e, he, hb⟩ := Array.any_eq_true'.1 h
    simp only [Bool.and_eq_true, beq_iff_eq] at hb
    exact ⟨oj, hj, e, he, hb.1, hb.2⟩
  · cases h

theorem getD_bool {listed : Array Bool} {i : Nat} (hi : i < listed.size) (b c : Bool) : listed.getD i b = listed.getD i c := by
  simp [hi]
theorem getD_set {listed : Array Bool} {i j : Nat} (hi : i < listed.size) : (listed.setIfInBounds i true).getD j false = (listed.getD j false || j == i) := by
  rw [Array.getD_eq_getD_getElem?, Array.getD_eq_getD_getElem?, Array.getElem?_setIfInBounds]
  by_cases e : i = j
  · subst e; simp [hi]
  · rw [if_neg e]
    have : (j == i) = false := by simp; omega
    simp [this]

variable {Q : Exit → Act → World → Prop}
/-- The tail, one behind the other. -/
theorem tail_any {l : List Oper} (hops : ops = l.toArray) (hO : orderB ops = true) {k : Nat} (hT : ∀ t, k < t → t < ops.size → tailB.Region.waitsB ops t (t - 1) = true) : ∀ (m t : Nat) (listed : Array Bool) (a : Act) (W : World), ops.size - t = m → k ≤ t → t ≤ ops.size → listed.size = ops.size →
    (∀ j, j < ops.size → listed.getD j false = decide (j < t)) → OL r n P ops Q (l.drop t) a W → wpAnyIn (Fw r) n P .any ops Q m listed a W := by
  intro m
  induction m with
  | zero =>
    intro t listed a W hm hk ht hs hl h
    have ht' : t = ops.size := by omega
    refine ⟨?_, ?_⟩
    · rw [List.eq_nil_iff_forall_not_mem]
      intro i hi
      obtain ⟨hun, o, ho, _⟩ := mem_ready.1 hi
      have hlt := (Array.getElem?_eq_some_iff.1 ho).1
      have h2 := hl i hlt
      rw [getD_bool (by omega) false true, hun] at h2
      simp at h2
      omega
    · have : l.drop t = [] := List.drop_eq_nil_iff.2 (by rw [ht', hops]; simp)
      rw [this] at h
      exact h
  | succ m ih =>
    intro t listed a W hm hk ht hs hl h
    have htl : t < ops.size := by omega
    obtain ⟨o, ho⟩ : ∃ o, ops[t]? = some o := ⟨_, Array.getElem?_eq_some_iff.2 ⟨htl, rfl⟩⟩
    have hrd : t ∈ Region.ready .any ops listed := by
      refine mem_ready.2 ⟨?_, o, ho, fun e he hb => ?_⟩
      · rw [getD_bool (by omega) true false, hl t htl]; simp
      · have h1 := (orderB_spec hO ho).2.2.1 e he hb
        rw [hl e.on (by omega)]; simp [h1]
    refine ⟨(fun h0 => by rw [h0] at hrd; cases hrd), fun i hi => ?_⟩
    have hit : i = t := by
      obtain ⟨hun, oi, hoi, hall⟩ := mem_ready.1 hi
      have hlt := (Array.getElem?_eq_some_iff.1 hoi).1
      have h2 := hl i hlt
      rw [getD_bool (by omega) false true, hun] at h2
      have hge : t ≤ i := by simpa using h2
      by_cases e : i = t
      · exact e
      · obtain ⟨oj, hoj, e', he, hb, hon⟩ := waitsB_spec (hT i (by omega) hlt)
        rw [hoi] at hoj; cases hoj
        have h3 := hall e' he hb
        rw [hl e'.on (by omega)] at h3
        simp at h3
        omega
    subst hit
    have hd : l.drop i = o :: l.drop (i + 1) := by
      have hlt : i < l.length := by rw [hops] at htl; simpa using htl
      rw [List.drop_eq_getElem_cons hlt]
      have : l[i] = o := by rw [hops] at ho; simpa [hlt] using ho
      rw [this]
    rw [hd] at h
    have hnext : ∀ a W, OL r n P ops Q (l.drop (i + 1)) a W → wpAnyIn (Fw r) n P .any ops Q m (listed.setIfInBounds i true) a W := fun a W h' =>
      ih (i + 1) _ a W (by omega) (by omega) (by omega) (by simpa using hs) (fun j hj => by
        rw [getD_set (by omega), hl j hj]
        by_cases e : j = i
        · subst e; simp
        · have : (j == i) = false := by simpa using e
          rw [this, Bool.or_false]
          congr 1
          apply propext
          omega) h'
    unfold wpOpIn
    simp only [ho]
    unfold OL at h
    split
    · rename_i hw
      rw [if_pos hw] at h
      exact Oper.wpIn_mono hnext h
    · rename_i hw
      rw [if_neg hw] at h
      exact ⟨fun _ _ => trivial, hnext _ _ h⟩

/-- How many of the first k are still to come. -/
def left (listed : Array Bool) (k : Nat) : Nat := ((List.range k).filter fun j => !listed.getD j false).length
theorem left_zero {listed : Array Bool} {k : Nat} (h : left listed k = 0) : ∀ j, j < k → listed.getD j false = true := by
  intro j hj
  unfold left at h
  have h1 := List.eq_nil_of_length_eq_zero h
  have h2 := List.filter_eq_nil_iff.1 h1 j (List.mem_range.2 hj)
  simpa using h2
theorem left_set {listed : Array Bool} {i : Nat} (hi : i < listed.size) (hun : listed.getD i false = false) : ∀ k, i < k → left listed k = left (listed.setIfInBounds i true) k + 1
  | 0, h => by omega
  | k + 1, h => by
    unfold left
    rw [List.range_succ, List.filter_append, List.filter_append, List.length_append, List.length_append]
    by_cases e : i = k
    · subst e
      have : (List.range i).filter (fun j => !(listed.setIfInBounds i true).getD j false) = (List.range i).filter fun j => !listed.getD j false :=
        List.filter_congr fun j hj => by
          rw [getD_set hi]
          have : (j == i) = false := by have := List.mem_range.1 hj; simp; omega
          rw [this, Bool.or_false]
      rw [this]
      have h3 : (listed.setIfInBounds i true).getD i false = true := by rw [getD_set hi]; simp
      have f1 : List.filter (fun j => !listed.getD j false) [i] = [i] := by rw [List.filter_cons_of_pos (by rw [hun]; rfl)]; rfl
      have f2 : List.filter (fun j => !(listed.setIfInBounds i true).getD j false) [i] = [] := by rw [List.filter_cons_of_neg (by rw [h3]; simp)]; rfl
      rw [f1, f2]
      simp
    · have ih := left_set hi hun k (by omega)
      unfold left at ih
      have : (listed.setIfInBounds i true).getD k false = listed.getD k false := by
        rw [getD_set hi]
        have : (k == i) = false := by simp; omega
        rw [this, Bool.or_false]
      simp only [this, List.filter_cons, List.filter_nil]
      omega

/-- **A region that draws its order**: its first k operations, walked in the text's order, stay in the class C; the others follow. -/
theorem wp_draws {l : List Oper} (k : Nat) (hm : P.follows .mixedOrders = true) (hO : orderB l.toArray = true) (hT : tailB l.toArray k = true) {id : Nat} {a0 : Act} {W0 : World} {C : World → Prop}
    (h0 : C { W0 with drawn := W0.drawn + 1 })
    (hq : QW r n P l.toArray C (fun a' => ∀ W, C W → OL r n P l.toArray Q (l.drop k) a' W) (l.take k) a0) : (Code.region id l.toArray true).wpIn (Fw r) n P Q a0 W0 := by
  refine wpIn_region_any hm ?_
  obtain ⟨ops, hops⟩ : ∃ ops, ops = l.toArray := ⟨_, rfl⟩
  rw [← hops] at hO hT hq ⊢
  unfold tailB at hT
  simp only [Bool.and_eq_true, Bool.or_eq_true, decide_eq_true_eq] at hT
  obtain ⟨hkN, hT⟩ := hT
  have hlen : (l.take k).length = k := by rw [hops] at hkN; simp at hkN; simp; omega
  obtain ⟨vals, acts, ha0, hacts, hvals, hK⟩ := qw_vals (l.take k) 0 a0 (fun j hj => by
    rw [hlen] at hj
    rw [hops]; simp [hj]) hq
  rw [hlen] at hvals hK
  have hst : ∀ m, acts m = stA ops vals a0 (fun _ => true) m := by
    intro m
    induction m with
    | zero => exact ha0
    | succ m ih => rw [hacts m, Nat.zero_add, ih]; simp [stA]
  have hchain : ∀ t, k < t → t < ops.size → tailB.Region.waitsB ops t (t - 1) = true := fun t h1 h2 => by
    rcases hT with hT | hT
    · omega
    · have := List.all_eq_true.1 hT.2 t (List.mem_range.2 h2)
      simp only [Bool.or_eq_true, decide_eq_true_eq] at this
      rcases this with h | h
      · omega
      · exact h
  -- while an operation of the first k is still to come, no later one comes up
  have hsink : ∀ (listed : Array Bool), listed.size = ops.size → (∀ j oj, ops[j]? = some oj → listed.getD j false = true → ∀ e ∈ oj.after, Region.binds .any e = true → listed.getD e.on false = true) →
      (∀ t, k ≤ t → t < ops.size → listed.getD t false = false) → ∀ (d i : Nat), k - i = d → i < k → listed.getD i false = false → ∀ t, k ≤ t → t ∉ Region.ready .any ops listed := by
    intro listed hsz hcl htl d
    induction d using Nat.strongRecOn with
    | _ d ih =>
      intro i hd hi hun t ht hr
      obtain ⟨htu, ot, hot, hall⟩ := mem_ready.1 hr
      have htlt : t < ops.size := (Array.getElem?_eq_some_iff.1 hot).1
      have hT' : (List.range k).all (fun i => (List.range (k + 1)).any fun j => decide (i < j) && tailB.Region.waitsB ops j i) = true := by
        rcases hT with hT | hT
        · omega
        · exact hT.1
      by_cases htk : t = k
      · subst htk
        have h1 := List.all_eq_true.1 hT' i (List.mem_range.2 hi)
        obtain ⟨j, hj, hj2⟩ := List.any_eq_true.1 h1
        simp only [Bool.and_eq_true, decide_eq_true_eq] at hj2
        obtain ⟨oj, hoj, e, he, hb, hon⟩ := waitsB_spec hj2.2
        have hjle : j ≤ t := by have := List.mem_range.1 hj; omega
        by_cases hjt : j = t
        · subst hjt
          rw [hot] at hoj; cases hoj
          have h2 := hall e he hb
          rw [hon, hun] at h2; cases h2
        · cases hlj : listed.getD j false with
          | true =>
            have h2 := hcl j oj hoj hlj e he hb
            rw [hon, hun] at h2; cases h2
          | false => exact ih (t - j) (by omega) j rfl (by omega) hlj t (Nat.le_refl _) hr
      · obtain ⟨oj, hoj, e, he, hb, hon⟩ := waitsB_spec (hchain t (by omega) htlt)
        rw [hot] at hoj; cases hoj
        have h2 := hall e he hb
        rw [hon, htl (t - 1) (by omega) (by omega)] at h2; cases h2
  have main : ∀ (c : Nat) (listed : Array Bool) (W : World), C W → listed.size = ops.size → left listed k = c →
      (∀ j oj, ops[j]? = some oj → listed.getD j false = true → ∀ e ∈ oj.after, Region.binds .any e = true → listed.getD e.on false = true) →
      (∀ t, k ≤ t → t < ops.size → listed.getD t false = false) →
      wpAnyIn (Fw r) n P .any ops Q (c + (ops.size - k)) listed (stA ops vals a0 (fun j => listed.getD j false) k) W := by
    intro c
    induction c with
    | zero =>
      intro listed W hC hsz hc hcl htl
      have hall := left_zero hc
      have hs : stA ops vals a0 (fun j => listed.getD j false) k = acts k := by
        rw [hst k]
        have : ∀ m, m ≤ k → stA ops vals a0 (fun j => listed.getD j false) m = stA ops vals a0 (fun _ => true) m := by
          intro m
          induction m with
          | zero => intro _; rfl
          | succ m ih => intro hm; simp only [stA, ih (show m ≤ k by omega), hall m (by omega)]
        exact this k (Nat.le_refl _)
      rw [hs, Nat.zero_add]
      exact tail_any hops hO hchain _ k listed _ W rfl (Nat.le_refl _) hkN hsz (fun j hj => by
        by_cases h : j < k
        · rw [hall j h]; simp [h]
        · rw [htl j (by omega) hj]; simp [h]) (hK W hC)
    | succ c ih =>
      intro listed W hC hsz hc hcl htl
      -- one of the first k is still to come
      have hex : ∃ i, i < k ∧ listed.getD i false = false := by
        apply Classical.byContradiction
        intro hno
        have : left listed k = 0 := by
          unfold left
          rw [List.filter_eq_nil_iff.2 fun j hj => ?_]
          · rfl
          · have hj' := List.mem_range.1 hj
            cases hl : listed.getD j false with
            | true => simp
            | false => exact absurd ⟨j, hj', hl⟩ hno
        omega
      obtain ⟨i0, hi0, hun0⟩ := hex
      have hrdy : ∀ j, j < ops.size → listed.getD j false = false → ∃ i, i ∈ Region.ready .any ops listed := by
        intro j
        induction j using Nat.strongRecOn with
        | _ j ihj =>
          intro hj hun
          obtain ⟨o, ho⟩ : ∃ o, ops[j]? = some o := ⟨_, Array.getElem?_eq_some_iff.2 ⟨hj, rfl⟩⟩
          by_cases hall : ∀ e ∈ o.after, Region.binds .any e = true → listed.getD e.on false = true
          · exact ⟨j, mem_ready.2 ⟨by rw [getD_bool (by omega) true false]; exact hun, o, ho, hall⟩⟩
          · have : ∃ e ∈ o.after, Region.binds .any e = true ∧ listed.getD e.on false = false := by
              apply Classical.byContradiction
              intro hno
              exact hall fun e he hb => by
                cases hl : listed.getD e.on false with
                | true => rfl
                | false => exact absurd ⟨e, he, hb, hl⟩ hno
            obtain ⟨e, he, hb, hf⟩ := this
            have hlt := (orderB_spec hO ho).2.2.1 e he hb
            exact ihj e.on hlt (by omega) hf
      obtain ⟨i1, hi1⟩ := hrdy i0 (by omega) hun0
      rw [show c + 1 + (ops.size - k) = (c + (ops.size - k)) + 1 by omega]
      refine ⟨fun h => (by rw [h] at hi1; cases hi1), fun i hi => ?_⟩
      obtain ⟨hun, o, ho, hall⟩ := mem_ready.1 hi
      have hlt : i < ops.size := (Array.getElem?_eq_some_iff.1 ho).1
      have hik : i < k := by
        rcases Nat.lt_or_ge i k with h | h
        · exact h
        · exact absurd hi (hsink listed hsz hcl htl _ i0 rfl hi0 hun0 i h)
      rw [getD_bool (by omega) true false] at hun
      obtain ⟨hsel, hdef, _, hord⟩ := orderB_spec hO ho
      -- what it looks at is as in the text's order
      have hlook : ∀ j, j < k → (listed.getD j false) ≠ decide (j < i) → ∀ d, dstA ops j = some d → ¬ d ∈ o.looksAt ops := by
        intro j hj hne d hd hmem
        obtain ⟨oj, hoj⟩ : ∃ oj, ops[j]? = some oj := ⟨_, Array.getElem?_eq_some_iff.2 ⟨by omega, rfl⟩⟩
        have hdj : oj.dst = some d := by simpa [dstA, hoj] using hd
        rcases Nat.lt_trichotomy j i with h | h | h
        · -- not listed, yet the operation is ready: it does not wait for it
          have hl : listed.getD j false = false := by
            cases hl : listed.getD j false with
            | false => rfl
            | true => exact absurd (by rw [hl]; simp [h]) hne
          rcases hord j oj h hoj with hap | ⟨e, he, hb, hon⟩
          · exact (Oper.apart_spec hap).1 d hdj hmem
          · have := hall e he hb
            rw [hon, hl] at this; cases this
        · subst h
          exact absurd (by rw [hun]; simp) hne
        · have hl : listed.getD j false = true := by
            cases hl : listed.getD j false with
            | true => rfl
            | false => exact absurd (by rw [hl]; simp; omega) hne
          rcases (orderB_spec hO hoj).2.2.2 i o h ho with hap | ⟨e, he, hb, hon⟩
          · exact (Oper.apart_spec hap).2.2 d hdj hmem
          · have := hcl j oj hoj hl e he hb
            rw [hon, hun] at this; cases this
      have hag := stA_agree (ops := ops) vals a0 (fun x => x ∈ o.looksAt ops) (fun j => listed.getD j false) (fun j => decide (j < i)) k hlook
      have hlex : stA ops vals a0 (fun j => decide (j < i)) k = acts i := by
        rw [hst i]
        have h1 : ∀ m, m ≤ i → stA ops vals a0 (fun j => decide (j < i)) m = stA ops vals a0 (fun _ => true) m := by
          intro m
          induction m with
          | zero => intro _; rfl
          | succ m ih => intro hm; simp only [stA]; rw [ih (by omega)]; simp; omega
        have h2 : ∀ m, i ≤ m → stA ops vals a0 (fun j => decide (j < i)) m = stA ops vals a0 (fun j => decide (j < i)) i := by
          intro m
          induction m with
          | zero => intro h; have : i = 0 := by omega
                    subst this; rfl
          | succ m ih =>
            intro hm
            by_cases e : i = m + 1
            · rw [e]
            · simp only [stA]
              rw [if_neg (by simp; omega)]
              exact ih (by omega)
        rw [h2 k (by omega), h1 i (Nat.le_refl _)]
      rw [hlex] at hag
      obtain ⟨hev, hwa⟩ := looks_same (ops := ops) (o := o) (a := stA ops vals a0 (fun j => listed.getD j false) k) (b := acts i) hag.1
      have hins : stA ops vals a0 (fun j => (listed.setIfInBounds i true).getD j false) k = (stA ops vals a0 (fun j => listed.getD j false) k).put o.dst (vals i) := by
        have e1 : (fun j => (listed.setIfInBounds i true).getD j false) = fun j => listed.getD j false || j == i := funext fun j => getD_set (by omega)
        rw [e1, stA_insert (ops := ops) vals a0 (fun j => listed.getD j false) i hun k hik (fun j h1 h2 hS d hd he => ?_)]
        · congr 1
          simp [dstA, ho]
        · obtain ⟨oj, hoj⟩ : ∃ oj, ops[j]? = some oj := ⟨_, Array.getElem?_eq_some_iff.2 ⟨by omega, rfl⟩⟩
          have hdj : oj.dst = some d := by simpa [dstA, hoj] using hd
          have hdi : o.dst = some d := by simpa [dstA, ho] using he
          rcases (orderB_spec hO hoj).2.2.2 i o h1 ho with hap | ⟨e, he, hb, hon⟩
          · exact (Oper.apart_spec hap).2.1 d hdi hdj
          · have := hcl j oj hoj hS e he hb
            rw [hon, hun] at this; cases this
      have hgo : ∀ W', C W' → wpAnyIn (Fw r) n P .any ops Q (c + (ops.size - k)) (listed.setIfInBounds i true) ((stA ops vals a0 (fun j => listed.getD j false) k).put o.dst (vals i)) W' := fun W' hC' => by
        rw [← hins]
        have hl := left_set (by omega) hun k hik
        refine ih _ W' hC' (by simpa using hsz) (by omega) (fun j oj hoj hlj e he hb => ?_) (fun t h1 h2 => ?_)
        · rw [getD_set (by omega)] at hlj ⊢
          by_cases e' : j = i
          · subst e'
            rw [ho] at hoj; cases hoj
            rw [hall e he hb]; rfl
          · have : (j == i) = false := by simpa using e'
            rw [this, Bool.or_false] at hlj
            rw [hcl j oj hoj hlj e he hb]; rfl
        · rw [getD_set (by omega), htl t h1 h2]
          simp; omega
      unfold wpOpIn
      simp only [ho]
      rcases hvals i o hik (by rw [Nat.zero_add]; exact ho) with ⟨hw, hy⟩ | ⟨hw, hv⟩
      · rw [hwa, if_pos hw]
        refine wpIn_of_opY (opY_congr hsel hdef (fun x hx => (hev x hx).symm) hy) hC ?_
        exact hgo
      · rw [hwa, if_neg (by rw [hw]; simp)]
        refine ⟨fun _ _ => trivial, ?_⟩
        have := hgo W hC
        rwa [hv] at this
  have hfin := main (left (Array.replicate ops.size false) k) (Array.replicate ops.size false) _ h0 (by simp) rfl (fun j oj hoj hl => by
    have : j < ops.size := (Array.getElem?_eq_some_iff.1 hoj).1
    simp [this] at hl) (fun t _ h => by simp [h])
  have e1 : left (Array.replicate ops.size false) k + (ops.size - k) = ops.size := by
    have : left (Array.replicate ops.size false) k = k := by
      unfold left
      rw [List.filter_eq_self.2 fun j hj => ?_]
      · simp
      · have := List.mem_range.1 hj
        simp [show j < ops.size by omega]
    omega
  have e2 : stA ops vals a0 (fun j => (Array.replicate ops.size false).getD j false) k = a0 := by
    have : ∀ m, m ≤ k → stA ops vals a0 (fun j => (Array.replicate ops.size false).getD j false) m = a0 := by
      intro m
      induction m with
      | zero => intro _; rfl
      | succ m ih => intro hm; simp only [stA]; rw [ih (by omega)]; simp [show m < ops.size by omega]
    exact this k (Nat.le_refl _)
  rw [e1, e2] at hfin
  exact hfin
end

end Go.Proofs.Ytndajeiecdmhnaa
