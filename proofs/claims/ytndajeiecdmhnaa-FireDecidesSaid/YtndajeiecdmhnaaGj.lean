/- A region that draws its order, with moves that come up at any time. -/
import Derived.Test.YtndajeiecdmhnaaGi
namespace Go.Proofs.Ytndajeiecdmhnaa
open Go.RowKit (Below)

section
variable {r : Option Nat} {n : Nat} {P : Program} {ops : Array Oper} {Q : Exit → Act → World → Prop}
/-- It goes on, or not at all. -/
def onlyN (Q : Exit → Act → World → Prop) : Exit → Act → World → Prop := fun e a w => e = .normal ∧ Q .normal a w
/-- A move that waits for nothing. -/
def freeB (ops : Array Oper) (k i : Nat) : Bool := decide (i < k) && match ops[i]? with
  | some ⟨some _, .move _, _, _, af, none⟩ => af.all fun e => !Region.binds .any e
  | _ => false
def tailF (ops : Array Oper) (fr : List Nat) (k : Nat) : Bool :=
  decide (k ≤ ops.size) && (decide (k = ops.size) || (
  (List.range k).all (fun i => fr.contains i || (List.range (k + 1)).any fun j => decide (i < j) && tailB.Region.waitsB ops j i) &&
  (List.range ops.size).all fun t => decide (t ≤ k) || tailB.Region.waitsB ops t (t - 1))) && fr.all (freeB ops k)

theorem wpIn_past {o : Oper} {a : Act} {d : Tmp} {v : Value} {W : World} {K : Act → World → Prop} (hs : ∀ cs b, o.op ≠ .select cs b) (hd : ∀ c, o.op ≠ .defer c) (hdst : o.dst ≠ some d) (hev : ∀ x ∈ o.op.operands, a.eval x = (a.put (some d) v).eval x)
    {x : Operand} (hx : ∀ u, (a.put o.dst u).eval x = a.eval x) (h : o.wpIn (Fw r) n P (a.put (some d) v) W K (onlyN Q)) : o.wpIn (Fw r) n P a W (fun a' W' => a'.eval x = a.eval x ∧ K (a'.put (some d) v) W') (onlyN Q) := by
  refine ⟨fun _ _ => by cases r <;> trivial, ?_⟩
  have h2 := h.2
  have e : o.semAt r a.eval = o.semAt r (a.put (some d) v).eval := by
    have e1 : execOp a.eval o = execOp (a.put (some d) v).eval o := execOp_congr o hs hev
    cases r with
    | none => rw [Oper.semAt_none, Oper.semAt_none, e1]
    | some l => rw [Oper.semAt_some l _ o hd, Oper.semAt_some l _ o hd, e1]
  have e0 : (Fw r).round = r := by cases r <;> rfl
  rw [e0] at h2 ⊢
  rw [e]
  have hp : ∀ u, (a.put o.dst u).put (some d) v = (a.put (some d) v).put o.dst u := fun u => Act.put_comm _ _ _ (fun d' h1 h2 => by
    rw [h1] at hdst
    exact hdst h2.symm)
  generalize (o.semAt r (a.put (some d) v).eval).run P W = res at h2 ⊢
  match res, h2 with
  | .ok (.value u) W', h2 => refine ⟨hx u, ?_⟩; rw [hp]; exact h2
  | .ok .skip W', h2 => refine ⟨hx undef, ?_⟩; rw [hp]; exact h2
  | .ok (.defer d') W', h2 =>
    refine ⟨(by have := hx undef; rw [← this]; cases o.dst <;> rfl), ?_⟩
    have : ({ a with defers := d' :: a.defers }.put o.dst undef).put (some d) v = ({ (a.put (some d) v) with defers := d' :: (a.put (some d) v).defers }).put o.dst undef := by
      rw [Act.put_comm _ _ _ (fun d' h1 h2 => by rw [h1] at hdst; exact hdst h2.symm)]
      rfl
    rw [this]
    exact h2
  | .ok (.enter f args) W', h2 =>
    refine ⟨h2.1, h2.2.mono ?_⟩
    rintro (_ | _ | _) w hw
    · refine ⟨hx _, ?_⟩; rw [hp]; exact hw
    · exact absurd hw.1 (by intro h; cases h)
    · exact hw
  | .ok (.row row args) W', h2 =>
    refine ⟨h2.1, ?_⟩
    have h3 := h2.2
    have e9 : (fun (u : Value) (w : World) => (a.put o.dst u).eval x = a.eval x ∧ K ((a.put o.dst u).put (some d) v) w) = fun u w => K ((a.put (some d) v).put o.dst u) w := by funext u w; rw [hp, hx u]; simp
    show RowsIn _ _ _ _ _ _ (fun (u : Value) (w : World) => (a.put o.dst u).eval x = a.eval x ∧ K ((a.put o.dst u).put (some d) v) w)
    rw [e9]
    exact h3
  | .ok (.round l f tmps assign body) W', h2 =>
    refine ⟨h2.1, h2.2.mono ?_⟩
    rintro (_ | _ | _) w hw
    · refine ⟨hx _, ?_⟩; rw [hp]; exact hw
    · exact absurd hw.1 (by intro h; cases h)
    · exact hw
  | .halt (.panic u) W', h2 => exact absurd h2.1 (by intro h; cases h)

/-- A free move may come first. -/
theorem any_front (hO : orderB ops = true) {i d : Nat} {x : Operand} {ty : TypeId} {pos : String} {af : Array Edge} (ho : ops[i]? = some ⟨some d, .move x, ty, pos, af, none⟩) (haf : ∀ e ∈ af, Region.binds .any e = false) : ∀ (c : Nat) (listed : Array Bool) (a : Act) (W : World), listed.size = ops.size → listed.getD i false = false →
    (∀ j oj, ops[j]? = some oj → listed.getD j false = true → ∀ e ∈ oj.after, Region.binds .any e = true → listed.getD e.on false = true) →
    wpAnyIn (Fw r) n P .any ops (onlyN Q) c (listed.setIfInBounds i true) (a.put (some d) (a.eval x)) W → wpAnyIn (Fw r) n P .any ops (onlyN Q) (c + 1) listed a W := by
  intro c
  have hlt : i < ops.size := (Array.getElem?_eq_some_iff.1 ho).1
  induction c with
  | zero =>
    intro listed a W hsz hun hcl h
    refine ⟨fun h0 => ?_, fun j hj => ?_⟩
    · have : i ∈ Region.ready .any ops listed := mem_ready.2 ⟨by rw [getD_bool (by omega) true false]; exact hun, _, ho, fun e he hb => by rw [haf e he] at hb; cases hb⟩
      rw [h0] at this; cases this
    · by_cases e : j = i
      · subst e
        unfold wpOpIn
        simp only [ho]
        rw [if_pos (show Region.wanted (⟨some d, .move x, ty, pos, af, none⟩ : Oper) (yielded ops a.tmps) = true from rfl)]
        exact wpIn_of_opY (C := fun W' => W' = W) (C' := fun W' => W' = W) (y_move rfl) rfl (fun W' hW' => by subst hW'; exact h)
      · obtain ⟨hu, oj, hoj, hall⟩ := mem_ready.1 hj
        have hjs : j < ops.size := (Array.getElem?_eq_some_iff.1 hoj).1
        have hj' : j ∈ Region.ready .any ops (listed.setIfInBounds i true) := mem_ready.2 ⟨by
          rw [getD_bool (by simp; omega) true false, getD_set (by omega), getD_bool (by omega) false true, hu]; simpa using e, oj, hoj, fun e' he hb => by rw [getD_set (by omega), hall e' he hb]; rfl⟩
        rw [h.1] at hj'; cases hj'
  | succ c ih =>
    intro listed a W hsz hun hcl h
    refine ⟨fun h0 => ?_, fun j hj => ?_⟩
    · have : i ∈ Region.ready .any ops listed := mem_ready.2 ⟨by rw [getD_bool (by omega) true false]; exact hun, _, ho, fun e he hb => by rw [haf e he] at hb; cases hb⟩
      rw [h0] at this; cases this
    · by_cases e : j = i
      · subst e
        unfold wpOpIn
        simp only [ho]
        rw [if_pos (show Region.wanted (⟨some d, .move x, ty, pos, af, none⟩ : Oper) (yielded ops a.tmps) = true from rfl)]
        exact wpIn_of_opY (C := fun W' => W' = W) (C' := fun W' => W' = W) (y_move rfl) rfl (fun W' hW' => by subst hW'; exact h)
      · obtain ⟨hu, oj, hoj, hall⟩ := mem_ready.1 hj
        have hjs : j < ops.size := (Array.getElem?_eq_some_iff.1 hoj).1
        have hj' : j ∈ Region.ready .any ops (listed.setIfInBounds i true) := mem_ready.2 ⟨by
          rw [getD_bool (by simp; omega) true false, getD_set (by omega), getD_bool (by omega) false true, hu]; simpa using e, oj, hoj, fun e' he hb => by rw [getD_set (by omega), hall e' he hb]; rfl⟩
        have h2 := h.2 j hj'
        have hap : (∀ q, oj.dst = some q → q ∉ (⟨some d, .move x, ty, pos, af, none⟩ : Oper).looksAt ops) ∧ oj.dst ≠ some d ∧ d ∉ oj.looksAt ops := by
          rcases Nat.lt_or_ge i j with hij | hij
          · rcases (orderB_spec hO hoj).2.2.2 i _ hij ho with hap | ⟨e', he, hb, hon⟩
            · have := Oper.apart_spec hap
              exact ⟨this.2.2, this.2.1 d rfl, this.1 d rfl⟩
            · have := hall e' he hb
              rw [hon, hun] at this; cases this
          · rcases (orderB_spec hO ho).2.2.2 j oj (by omega) hoj with hap | ⟨e', he, hb, hon⟩
            · have := Oper.apart_spec hap
              exact ⟨this.1, fun hc => this.2.1 d hc rfl, this.2.2 d rfl⟩
            · rw [haf e' he] at hb; cases hb
        obtain ⟨hap1, hap2, hap3⟩ := hap
        obtain ⟨hsel, hdef, _, _⟩ := orderB_spec hO hoj
        have hsame := looks_same (ops := ops) (o := oj) (a := a) (b := a.put (some d) (a.eval x)) (fun y hy => (put_get a (some d) _ y (by intro hc; cases hc; exact hap3 hy)).symm)
        have hxe : ∀ u, (a.put oj.dst u).eval x = a.eval x := fun u => Act.eval_put (fun q hq hx => hap1 q hq (by
          rw [hx]
          unfold Oper.looksAt
          exact List.mem_append_left _ (List.mem_filterMap.2 ⟨.tmp q, by simp [Op.operands], rfl⟩)))
        have hset : (listed.setIfInBounds i true).setIfInBounds j true = (listed.setIfInBounds j true).setIfInBounds i true := by
          apply Array.ext_getElem?
          intro q
          simp only [Array.getElem?_setIfInBounds]
          by_cases h1 : j = q <;> by_cases h2 : i = q <;> simp [h1, h2, hsz] <;> omega
        have hcl2 : ∀ q oq, ops[q]? = some oq → (listed.setIfInBounds j true).getD q false = true → ∀ e ∈ oq.after, Region.binds .any e = true → (listed.setIfInBounds j true).getD e.on false = true := fun q oq hoq hlq e' he hb => by
          rw [getD_set (by omega)] at hlq ⊢
          by_cases eq : q = j
          · subst eq
            rw [hoj] at hoq; cases hoq
            rw [hall e' he hb]; rfl
          · have : (q == j) = false := by simpa using eq
            rw [this, Bool.or_false] at hlq
            rw [hcl q oq hoq hlq e' he hb]; rfl
        have hun2 : (listed.setIfInBounds j true).getD i false = false := by
          rw [getD_set (by omega), hun]; simp; omega
        unfold wpOpIn at h2 ⊢
        simp only [hoj] at h2 ⊢
        rw [hsame.2]
        split
        · rename_i hw
          rw [if_pos hw] at h2
          refine Oper.wpIn_mono (fun a' W' h5 => ?_) (wpIn_past (r := r) (x := x) hsel hdef hap2 hsame.1 hxe h2)
          refine ih _ _ _ (by simpa using hsz) hun2 hcl2 ?_
          rw [h5.1, ← hset]
          exact h5.2
        · rename_i hw
          rw [if_neg hw] at h2
          refine ⟨fun _ _ => by cases r <;> trivial, ?_⟩
          refine ih _ _ _ (by simpa using hsz) hun2 hcl2 ?_
          rw [hxe, ← hset]
          have h4 := h2.2
          rw [Act.put_comm _ _ _ (fun d' h1 h2 => by rw [h1] at hap2; exact hap2 h2.symm)]
          exact h4

/-- What is quiet, walked in the text's order, and what follows. -/
theorem any_quiet {l : List Oper} (hops : ops = l.toArray) (fr : List Nat) {k : Nat} (hO : orderB ops = true) (hkN : k ≤ ops.size)
    (hT : k = ops.size ∨ (List.range k).all (fun i => fr.contains i || (List.range (k + 1)).any fun j => decide (i < j) && tailB.Region.waitsB ops j i) = true ∧ ((List.range ops.size).all fun t => decide (t ≤ k) || tailB.Region.waitsB ops t (t - 1)) = true)
    {a0 : Act} {vals : Nat → Value} {acts : Nat → Act} {C : World → Prop} (hst : ∀ m, acts m = stA ops vals a0 (fun _ => true) m)
    (hvals : ∀ (j : Nat) (o : Oper), j < k → j ∉ fr → ops[j]? = some o → (Region.wanted o (yielded ops (acts j).tmps) = true ∧ OpY r n P o (acts j).eval C C (vals j)) ∨ (Region.wanted o (yielded ops (acts j).tmps) = false ∧ vals j = undef))
    (hK : ∀ W, C W → OL r n P ops (onlyN Q) (l.drop k) (acts k) W) :
    ∀ (c : Nat) (listed : Array Bool) (W : World), C W → listed.size = ops.size → left listed k = c →
      (∀ j oj, ops[j]? = some oj → listed.getD j false = true → ∀ e ∈ oj.after, Region.binds .any e = true → listed.getD e.on false = true) →
      (∀ t, k ≤ t → t < ops.size → listed.getD t false = false) → (∀ i, i ∈ fr → listed.getD i false = true) →
      wpAnyIn (Fw r) n P .any ops (onlyN Q) (c + (ops.size - k)) listed (stA ops vals a0 (fun j => listed.getD j false) k) W := by
  have hchain : ∀ t, k < t → t < ops.size → tailB.Region.waitsB ops t (t - 1) = true := fun t h1 h2 => by
    rcases hT with hT | hT
    · omega
    · have := List.all_eq_true.1 hT.2 t (List.mem_range.2 h2)
      simp only [Bool.or_eq_true, decide_eq_true_eq] at this
      rcases this with h | h
      · omega
      · exact h
  -- while an operation of the first k is still to come, no later one comes up
  have hsink : ∀ (listed : Array Bool), listed.size = ops.size → (∀ j oj, ops[j]? = some oj → listed.getD j false = true → ∀ e ∈ oj.after, Region.binds .any e = true → listed.getD e.on false = true) →
      (∀ t, k ≤ t → t < ops.size → listed.getD t false = false) → (∀ i, i ∈ fr → listed.getD i false = true) → ∀ (d i : Nat), k - i = d → i < k → listed.getD i false = false → ∀ t, k ≤ t → t ∉ Region.ready .any ops listed := by
    intro listed hsz hcl htl hfr d
    induction d using Nat.strongRecOn with
    | _ d ih =>
      intro i hd hi hun t ht hr
      obtain ⟨htu, ot, hot, hall⟩ := mem_ready.1 hr
      have htlt : t < ops.size := (Array.getElem?_eq_some_iff.1 hot).1
      have hT' : (List.range k).all (fun i => fr.contains i || (List.range (k + 1)).any fun j => decide (i < j) && tailB.Region.waitsB ops j i) = true := by
        rcases hT with hT | hT
        · omega
        · exact hT.1
      by_cases htk : t = k
      · subst htk
        have h1 := List.all_eq_true.1 hT' i (List.mem_range.2 hi)
        rw [Bool.or_eq_true] at h1
        have h1 := h1.resolve_left (fun hc => by
          have := hfr i (by simpa using hc)
          rw [hun] at this; cases this)
        obtain ⟨j, hj, hj2⟩ := List.any_eq_true.1 h1
        simp only [Bool.and_eq_true, decide_eq_true_eq] at hj2
        obtain ⟨oj, hoj, e, he, hb, hon⟩ := waitsB_spec hj2.2
        have hjle : j ≤ t := by have := List.mem_range.1 hj; omega
        by_cases hjt : j = t
        · subst hjt
          rw [hot] at hoj; cases hoj
          have h2 := hall e he hb
          rw [hon, hun] at h2; cases h2
        · cases hlj : listed.getD j false with
          | true =>
            have h2 := hcl j oj hoj hlj e he hb
            rw [hon, hun] at h2; cases h2
          | false => exact ih (t - j) (by omega) j rfl (by omega) hlj t (Nat.le_refl _) hr
      · obtain ⟨oj, hoj, e, he, hb, hon⟩ := waitsB_spec (hchain t (by omega) htlt)
        rw [hot] at hoj; cases hoj
        have h2 := hall e he hb
        rw [hon, htl (t - 1) (by omega) (by omega)] at h2; cases h2
  intro c
  induction c with
  | zero =>
    intro listed W hC hsz hc hcl htl hfr
    have hall := left_zero hc
    have hs : stA ops vals a0 (fun j => listed.getD j false) k = acts k := by
      rw [hst k]
      have : ∀ m, m ≤ k → stA ops vals a0 (fun j => listed.getD j false) m = stA ops vals a0 (fun _ => true) m := by
        intro m
        induction m with
        | zero => intro _; rfl
        | succ m ih => intro hm; simp only [stA, ih (show m ≤ k by omega), hall m (by omega)]
      exact this k (Nat.le_refl _)
    rw [hs, Nat.zero_add]
    exact tail_any hops hO hchain _ k listed _ W rfl (Nat.le_refl _) hkN hsz (fun j hj => by
      by_cases h : j < k
      · rw [hall j h]; simp [h]
      · rw [htl j (by omega) hj]; simp [h]) (hK W hC)
  | succ c ih =>
    intro listed W hC hsz hc hcl htl hfr
    -- one of the first k is still to come
    have hex : ∃ i, i < k ∧ listed.getD i false = false := by
      apply Classical.byContradiction
      intro hno
      have : left listed k = 0 := by
        unfold left
        rw [List.filter_eq_nil_iff.2 fun j hj => ?_]
        · rfl
        · have hj' := List.mem_range.1 hj
          cases hl : listed.getD j false with
          | true => simp
          | false => exact absurd ⟨j, hj', hl⟩ hno
      omega
    obtain ⟨i0, hi0, hun0⟩ := hex
    have hrdy : ∀ j, j < ops.size → listed.getD j false = false → ∃ i, i ∈ Region.ready .any ops listed := by
      intro j
      induction j using Nat.strongRecOn with
      | _ j ihj =>
        intro hj hun
        obtain ⟨o, ho⟩ : ∃ o, ops[j]? = some o := ⟨_, Array.getElem?_eq_some_iff.2 ⟨hj, rfl⟩⟩
        by_cases hall : ∀ e ∈ o.after, Region.binds .any e = true → listed.getD e.on false = true
        · exact ⟨j, mem_ready.2 ⟨by rw [getD_bool (by omega) true false]; exact hun, o, ho, hall⟩⟩
        · have : ∃ e ∈ o.after, Region.binds .any e = true ∧ listed.getD e.on false = false := by
            apply Classical.byContradiction
            intro hno
            exact hall fun e he hb => by
              cases hl : listed.getD e.on false with
              | true => rfl
              | false => exact absurd ⟨e, he, hb, hl⟩ hno
          obtain ⟨e, he, hb, hf⟩ := this
          have hlt := (orderB_spec hO ho).2.2.1 e he hb
          exact ihj e.on hlt (by omega) hf
    obtain ⟨i1, hi1⟩ := hrdy i0 (by omega) hun0
    rw [show c + 1 + (ops.size - k) = (c + (ops.size - k)) + 1 by omega]
    refine ⟨fun h => (by rw [h] at hi1; cases hi1), fun i hi => ?_⟩
    obtain ⟨hun, o, ho, hall⟩ := mem_ready.1 hi
    have hlt : i < ops.size := (Array.getElem?_eq_some_iff.1 ho).1
    have hik : i < k := by
      rcases Nat.lt_or_ge i k with h | h
      · exact h
      · exact absurd hi (hsink listed hsz hcl htl hfr _ i0 rfl hi0 hun0 i h)
    rw [getD_bool (by omega) true false] at hun
    obtain ⟨hsel, hdef, _, hord⟩ := orderB_spec hO ho
    -- what it looks at is as in the text's order
    have hlook : ∀ j, j < k → (listed.getD j false) ≠ decide (j < i) → ∀ d, dstA ops j = some d → ¬ d ∈ o.looksAt ops := by
      intro j hj hne d hd hmem
      obtain ⟨oj, hoj⟩ : ∃ oj, ops[j]? = some oj := ⟨_, Array.getElem?_eq_some_iff.2 ⟨by omega, rfl⟩⟩
      have hdj : oj.dst = some d := by simpa [dstA, hoj] using hd
      rcases Nat.lt_trichotomy j i with h | h | h
      · -- not listed, yet the operation is ready: it does not wait for it
        have hl : listed.getD j false = false := by
          cases hl : listed.getD j false with
          | false => rfl
          | true => exact absurd (by rw [hl]; simp [h]) hne
        rcases hord j oj h hoj with hap | ⟨e, he, hb, hon⟩
        · exact (Oper.apart_spec hap).1 d hdj hmem
        · have := hall e he hb
          rw [hon, hl] at this; cases this
      · subst h
        exact absurd (by rw [hun]; simp) hne
      · have hl : listed.getD j false = true := by
          cases hl : listed.getD j false with
          | true => rfl
          | false => exact absurd (by rw [hl]; simp; omega) hne
        rcases (orderB_spec hO hoj).2.2.2 i o h ho with hap | ⟨e, he, hb, hon⟩
        · exact (Oper.apart_spec hap).2.2 d hdj hmem
        · have := hcl j oj hoj hl e he hb
          rw [hon, hun] at this; cases this
    have hag := stA_agree (ops := ops) vals a0 (fun x => x ∈ o.looksAt ops) (fun j => listed.getD j false) (fun j => decide (j < i)) k hlook
    have hlex : stA ops vals a0 (fun j => decide (j < i)) k = acts i := by
      rw [hst i]
      have h1 : ∀ m, m ≤ i → stA ops vals a0 (fun j => decide (j < i)) m = stA ops vals a0 (fun _ => true) m := by
        intro m
        induction m with
        | zero => intro _; rfl
        | succ m ih => intro hm; simp only [stA]; rw [ih (by omega)]; simp; omega
      have h2 : ∀ m, i ≤ m → stA ops vals a0 (fun j => decide (j < i)) m = stA ops vals a0 (fun j => decide (j < i)) i := by
        intro m
        induction m with
        | zero => intro h; have : i = 0 := by omega
                  subst this; rfl
        | succ m ih =>
          intro hm
          by_cases e : i = m + 1
          · rw [e]
          · simp only [stA]
            rw [if_neg (by simp; omega)]
            exact ih (by omega)
      rw [h2 k (by omega), h1 i (Nat.le_refl _)]
    rw [hlex] at hag
    obtain ⟨hev, hwa⟩ := looks_same (ops := ops) (o := o) (a := stA ops vals a0 (fun j => listed.getD j false) k) (b := acts i) hag.1
    have hins : stA ops vals a0 (fun j => (listed.setIfInBounds i true).getD j false) k = (stA ops vals a0 (fun j => listed.getD j false) k).put o.dst (vals i) := by
      have e1 : (fun j => (listed.setIfInBounds i true).getD j false) = fun j => listed.getD j false || j == i := funext fun j => getD_set (by omega)
      rw [e1, stA_insert (ops := ops) vals a0 (fun j => listed.getD j false) i hun k hik (fun j h1 h2 hS d hd he => ?_)]
      · congr 1
        simp [dstA, ho]
      · obtain ⟨oj, hoj⟩ : ∃ oj, ops[j]? = some oj := ⟨_, Array.getElem?_eq_some_iff.2 ⟨by omega, rfl⟩⟩
        have hdj : oj.dst = some d := by simpa [dstA, hoj] using hd
        have hdi : o.dst = some d := by simpa [dstA, ho] using he
        rcases (orderB_spec hO hoj).2.2.2 i o h1 ho with hap | ⟨e, he, hb, hon⟩
        · exact (Oper.apart_spec hap).2.1 d hdi hdj
        · have := hcl j oj hoj hS e he hb
          rw [hon, hun] at this; cases this
    have hgo : ∀ W', C W' → wpAnyIn (Fw r) n P .any ops (onlyN Q) (c + (ops.size - k)) (listed.setIfInBounds i true) ((stA ops vals a0 (fun j => listed.getD j false) k).put o.dst (vals i)) W' := fun W' hC' => by
      rw [← hins]
      have hl := left_set (by omega) hun k hik
      refine ih _ W' hC' (by simpa using hsz) (by omega) (fun j oj hoj hlj e he hb => ?_) (fun t h1 h2 => ?_) (fun i' hi' => by rw [getD_set (by omega), hfr i' hi']; rfl)
      · rw [getD_set (by omega)] at hlj ⊢
        by_cases e' : j = i
        · subst e'
          rw [ho] at hoj; cases hoj
          rw [hall e he hb]; rfl
        · have : (j == i) = false := by simpa using e'
          rw [this, Bool.or_false] at hlj
          rw [hcl j oj hoj hlj e he hb]; rfl
      · rw [getD_set (by omega), htl t h1 h2]
        simp; omega
    unfold wpOpIn
    simp only [ho]
    rcases hvals i o hik (fun hfi => by rw [hfr i hfi] at hun; cases hun) ho with ⟨hw, hy⟩ | ⟨hw, hv⟩
    · rw [hwa, if_pos hw]
      refine wpIn_of_opY (opY_congr hsel hdef (fun x hx => (hev x hx).symm) hy) hC ?_
      exact hgo
    · rw [hwa, if_neg (by rw [hw]; simp)]
      refine ⟨fun _ _ => trivial, ?_⟩
      have := hgo W hC
      rwa [hv] at this

/-- **A region that draws its order**: its first k operations, walked in the text's order, stay in the class C; the others follow. -/
theorem wp_drawsF {l : List Oper} (fr : List Nat) (k : Nat) (hm : P.follows .mixedOrders = true) (hO : orderB l.toArray = true) (hT : tailF l.toArray fr k = true) {id : Nat} {a0 : Act} {W0 : World} {C : World → Prop}
    (h0 : C { W0 with drawn := W0.drawn + 1 })
    (hq : QW r n P l.toArray C (fun a' => ∀ W, C W → OL r n P l.toArray (onlyN Q) (l.drop k) a' W) (l.take k) a0) : (Code.region id l.toArray true).wpIn (Fw r) n P Q a0 W0 := by
  refine wpIn_mono (Q := onlyN Q) ?_ (fun e a w h => by obtain ⟨rfl, h⟩ := h; exact h)
  refine wpIn_region_any hm ?_
  obtain ⟨ops, hops⟩ : ∃ ops, ops = l.toArray := ⟨_, rfl⟩
  rw [← hops] at hO hT hq ⊢
  unfold tailF at hT
  simp only [Bool.and_eq_true, Bool.or_eq_true, decide_eq_true_eq] at hT
  obtain ⟨⟨hkN, hT⟩, hF⟩ := hT
  have hlen : (l.take k).length = k := by rw [hops] at hkN; simp at hkN; simp; omega
  obtain ⟨vals, acts, ha0, hacts, hvals, hK⟩ := qw_vals (l.take k) 0 a0 (fun j hj => by
    rw [hlen] at hj
    rw [hops]; simp [hj]) hq
  rw [hlen] at hvals hK
  have hst : ∀ m, acts m = stA ops vals a0 (fun _ => true) m := by
    intro m
    induction m with
    | zero => exact ha0
    | succ m ih => rw [hacts m, Nat.zero_add, ih]; simp [stA]
  have main := any_quiet (r := r) (n := n) (P := P) (Q := Q) hops fr hO hkN hT (vals := vals) (acts := acts) (C := C) hst (fun j o hj _ ho => hvals j o hj (by rw [Nat.zero_add]; exact ho)) hK
  -- the free ones come first
  have hfree : ∀ i ∈ fr, i < k ∧ ∃ d x ty pos af, ops[i]? = some ⟨some d, .move x, ty, pos, af, none⟩ ∧ ∀ e ∈ af, Region.binds .any e = false := fun i hi => by
    have h1 := List.all_eq_true.1 hF i hi
    unfold freeB at h1
    simp only [Bool.and_eq_true, decide_eq_true_eq] at h1
    obtain ⟨h1, h2⟩ := h1
    split at h2
    · rename_i d x ty pos af ho
      exact ⟨h1, d, x, ty, pos, af, ho, fun e he => by simpa using Array.all_eq_true'.1 h2 e he⟩
    · cases h2
  have front : ∀ (fs : List Nat), (∀ i ∈ fs, i ∈ fr) → ∀ (listed : Array Bool) (c : Nat), listed.size = ops.size →
      (∀ j oj, ops[j]? = some oj → listed.getD j false = true → ∀ e ∈ oj.after, Region.binds .any e = true → listed.getD e.on false = true) →
      (∀ t, k ≤ t → t < ops.size → listed.getD t false = false) → (∀ i ∈ fr, i ∈ fs ∨ listed.getD i false = true) → left listed k + (ops.size - k) = c →
      wpAnyIn (Fw r) n P .any ops (onlyN Q) c listed (stA ops vals a0 (fun j => listed.getD j false) k) { W0 with drawn := W0.drawn + 1 } := by
    intro fs
    induction fs with
    | nil =>
      intro _ listed c hsz hcl htl hfr hc
      rw [← hc]
      exact main _ listed _ h0 hsz rfl hcl htl (fun i hi => (hfr i hi).elim (fun h => absurd h List.not_mem_nil) (fun h => h))
    | cons i fs ih =>
      intro hsub listed c hsz hcl htl hfr hc
      obtain ⟨hik, d, x, ty, pos, af, ho, haf⟩ := hfree i (hsub i (List.mem_cons_self ..))
      have hlt : i < ops.size := by omega
      cases hun : listed.getD i false with
      | true =>
        refine ih (fun j hj => hsub j (List.mem_cons_of_mem _ hj)) listed c hsz hcl htl (fun j hj => ?_) hc
        rcases hfr j hj with h | h
        · rcases List.mem_cons.1 h with rfl | h
          · exact .inr hun
          · exact .inl h
        · exact .inr h
      | false =>
        have hl := left_set (by omega) hun k hik
        have hcl' : ∀ j oj, ops[j]? = some oj → (listed.setIfInBounds i true).getD j false = true → ∀ e ∈ oj.after, Region.binds .any e = true → (listed.setIfInBounds i true).getD e.on false = true := fun j oj hoj hlj e he hb => by
          rw [getD_set (by omega)] at hlj ⊢
          by_cases e' : j = i
          · subst e'
            rw [ho] at hoj; cases hoj
            rw [haf e he] at hb; cases hb
          · have : (j == i) = false := by simpa using e'
            rw [this, Bool.or_false] at hlj
            rw [hcl j oj hoj hlj e he hb]; rfl
        obtain ⟨c', rfl⟩ : ∃ c', c = c' + 1 := ⟨c - 1, by omega⟩
        have h7 := ih (fun j hj => hsub j (List.mem_cons_of_mem _ hj)) (listed.setIfInBounds i true) c' (by simpa using hsz) hcl'
          (fun t h1 h2 => by rw [getD_set (by omega), htl t h1 h2]; simp; omega)
          (fun j hj => by
            rw [getD_set (by omega)]
            rcases hfr j hj with h | h
            · rcases List.mem_cons.1 h with rfl | h
              · right; simp
              · exact .inl h
            · right; rw [h]; rfl) (by omega)
        refine any_front hO ho haf c' listed _ _ hsz hun hcl ?_
        have e1 : (fun j => (listed.setIfInBounds i true).getD j false) = fun j => listed.getD j false || j == i := funext fun j => getD_set (by omega)
        rw [e1, stA_insert (ops := ops) vals a0 (fun j => listed.getD j false) i hun k hik (fun j h1 h2 hS d' hd he => ?_)] at h7
        · have e2 : dstA ops i = some d := by simp [dstA, ho]
          have e3 : vals i = (stA ops vals a0 (fun j => listed.getD j false) k).eval x := by
            rcases hvals i _ hik (by rw [Nat.zero_add]; exact ho) with ⟨_, hy⟩ | ⟨hw, _⟩
            · have h8 := hy _ h0
              have e4 : ((⟨some d, .move x, ty, pos, af, none⟩ : Oper).semAt r (acts i).eval).run P { W0 with drawn := W0.drawn + 1 } = .ok (.value ((acts i).eval x)) { W0 with drawn := W0.drawn + 1 } := by
                cases r with
                | none => rw [Oper.semAt_none]; rfl
                | some l' => rw [Oper.semAt_some l' _ _ (by intro c h; cases h)]; rfl
              rw [e4] at h8
              have h9 : (acts i).eval x = vals i := h8.1
              rw [← h9]
              -- what it looks at
              cases x with
              | tmp q =>
                refine eval_of_get ?_
                have hag := stA_agree (ops := ops) vals a0 (fun y => y = q) (fun j => listed.getD j false) (fun j => decide (j < i)) k (fun j hj hne d' hd' hq' => by
                  obtain ⟨oj, hoj⟩ : ∃ oj, ops[j]? = some oj := ⟨_, Array.getElem?_eq_some_iff.2 ⟨by omega, rfl⟩⟩
                  have hdj : oj.dst = some d' := by simpa [dstA, hoj] using hd'
                  have hlk : d' ∈ (⟨some d, .move (.tmp q), ty, pos, af, none⟩ : Oper).looksAt ops := by
                    rw [hq']
                    unfold Oper.looksAt
                    exact List.mem_append_left _ (List.mem_filterMap.2 ⟨.tmp q, by simp [Op.operands], rfl⟩)
                  rcases Nat.lt_trichotomy j i with h | h | h
                  · rcases (orderB_spec hO ho).2.2.2 j oj h hoj with hap | ⟨e, he, hb, _⟩
                    · exact (Oper.apart_spec hap).1 d' hdj hlk
                    · rw [haf e he] at hb; cases hb
                  · subst h
                    exact absurd (by simp [hun]) hne
                  · have hlj : listed.getD j false = true := by
                      cases hl' : listed.getD j false with
                      | true => rfl
                      | false => exact absurd (by simp [hl']; omega) hne
                    rcases (orderB_spec hO hoj).2.2.2 i _ h ho with hap | ⟨e, he, hb, hon⟩
                    · exact (Oper.apart_spec hap).2.2 d' hdj hlk
                    · have := hcl j oj hoj hlj e he hb
                      rw [hon, hun] at this; cases this)
                have hlex : stA ops vals a0 (fun j => decide (j < i)) k = acts i := by
                  rw [hst i]
                  have h1 : ∀ m, m ≤ i → stA ops vals a0 (fun j => decide (j < i)) m = stA ops vals a0 (fun _ => true) m := by
                    intro m
                    induction m with
                    | zero => intro _; rfl
                    | succ m ih => intro hm; simp only [stA]; rw [ih (by omega)]; simp; omega
                  have h2 : ∀ m, i ≤ m → stA ops vals a0 (fun j => decide (j < i)) m = stA ops vals a0 (fun j => decide (j < i)) i := by
                    intro m
                    induction m with
                    | zero => intro h; have : i = 0 := by omega
                              subst this; rfl
                    | succ m ih =>
                      intro hm
                      by_cases e : i = m + 1
                      · rw [e]
                      · simp only [stA]
                        rw [if_neg (by simp; omega)]
                        exact ih (by omega)
                  rw [h2 k (by omega), h1 i (Nat.le_refl _)]
                rw [hlex] at hag
                exact (hag.1 q rfl).symm
              | _ => rfl
            · have : Region.wanted (⟨some d, .move x, ty, pos, af, none⟩ : Oper) (yielded ops (acts i).tmps) = true := rfl
              rw [this] at hw; cases hw
          rw [e2, e3] at h7
          exact h7
        · obtain ⟨oj, hoj⟩ : ∃ oj, ops[j]? = some oj := ⟨_, Array.getElem?_eq_some_iff.2 ⟨by omega, rfl⟩⟩
          have hdj : oj.dst = some d' := by simpa [dstA, hoj] using hd
          have hdi : (some d) = some d' := by simpa [dstA, ho] using he
          rcases (orderB_spec hO hoj).2.2.2 i _ h1 ho with hap | ⟨e, he, hb, hon⟩
          · exact (Oper.apart_spec hap).2.1 d' hdi hdj
          · have := hcl j oj hoj hS e he hb
            rw [hon, hun] at this; cases this
  have hfin := front fr (fun i hi => hi) (Array.replicate ops.size false) _ (by simp) (fun j oj hoj hl => by
    have : j < ops.size := (Array.getElem?_eq_some_iff.1 hoj).1
    simp [this] at hl) (fun t _ h => by simp [h]) (fun i hi => .inl hi) rfl
  have e1 : left (Array.replicate ops.size false) k + (ops.size - k) = ops.size := by
    have : left (Array.replicate ops.size false) k = k := by
      unfold left
      rw [List.filter_eq_self.2 fun j hj => ?_]
      · simp
      · have := List.mem_range.1 hj
        simp [show j < ops.size by omega]
    omega
  have e2 : stA ops vals a0 (fun j => (Array.replicate ops.size false).getD j false) k = a0 := by
    have : ∀ m, m ≤ k → stA ops vals a0 (fun j => (Array.replicate ops.size false).getD j false) m = a0 := by
      intro m
      induction m with
      | zero => intro _; rfl
      | succ m ih => intro hm; simp only [stA]; rw [ih (by omega)]; simp [show m < ops.size by omega]
    exact this k (Nat.le_refl _)
  rw [e1, e2] at hfin
  exact hfin
end

section
variable {r : Option Nat} {n : Nat} {P : Program} {Q : Exit → Act → World → Prop} {w0 : World} {L : List Res} {m : Nat} {tm : Nat → Value} {d : List Deferred}
theorem cx_drawsF (fr : List Nat) (k : Nat) {id : Nat} {l : List Oper} (hm : P.follows .mixedOrders = true) (hO : orderB l.toArray = true) (hT : tailF l.toArray fr k = true)
    (h : QX r n P l.toArray (onlyN Q) w0 L (l.drop k) (l.take k) m tm d) : CX r n P (.region id l.toArray true) Q w0 L m tm d :=
  fun _ hW => wp_drawsF fr k hm hO hT (C := fun W => Ext w0 W L) hW.drawn h
theorem ex_only (h : EX Q .normal w0 L m tm d) : EX (onlyN Q) .normal w0 L m tm d := fun W hW => ⟨rfl, h W hW⟩
end

end Go.Proofs.Ytndajeiecdmhnaa
