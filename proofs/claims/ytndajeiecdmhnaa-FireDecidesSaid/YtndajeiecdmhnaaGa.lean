/- Words for walks: frames as functions from slots to values; one operation in every world of a class; a region that draws its order walked in the text's order. -/
import Derived.WalkKit
import Derived.OrdersIn
import Derived.RangeFuncFrom
import Derived.RangeFuncCalls
namespace Go.Proofs.Ytndajeiecdmhnaa
open Go.RowKit (Below)

/-! ### Frames -/
def upd (tm : Nat → Value) (i : Nat) (v : Value) : Nat → Value := fun j => if j = i then v else tm j
def tarr (n : Nat) (tm : Nat → Value) : Array Value := Array.ofFn (n := n) fun i => tm i.val
def act (n : Nat) (tm : Nat → Value) (d : List Deferred) : Act := ⟨tarr n tm, d⟩
def opv (n : Nat) (tm : Nat → Value) : Operand → Value
  | .tmp t => if t < n then tm t else undef
  | .const v => v
  | .global g => .pointer (some ⟨g, 0, none⟩)
  | .func f => .func (.func f) #[] #[]
def updO (tm : Nat → Value) : Option Tmp → Value → Nat → Value
  | some d, v => upd tm d v
  | none, _ => tm

theorem tarr_get? (n : Nat) (tm : Nat → Value) (i : Nat) : (tarr n tm)[i]? = if i < n then some (tm i) else none := by
  unfold tarr
  by_cases h : i < n
  · simp [h]
  · simp [h]
theorem tarr_size (n : Nat) (tm : Nat → Value) : (tarr n tm).size = n := by simp [tarr]
theorem eval_act (n : Nat) (tm : Nat → Value) (d : List Deferred) : (act n tm d).eval = opv n tm := by
  funext x
  cases x with
  | tmp t =>
    show (tarr n tm).getD t undef = if t < n then tm t else undef
    rw [Array.getD_eq_getD_getElem?, tarr_get?]
    by_cases h : t < n <;> simp [h]
  | _ => rfl
theorem put_act (n : Nat) (tm : Nat → Value) (d : List Deferred) (o : Option Tmp) (v : Value) : (act n tm d).put o v = act n (updO tm o v) d := by
  cases o with
  | none => rfl
  | some i =>
    show (⟨(tarr n tm).setIfInBounds i v, d⟩ : Act) = ⟨tarr n (upd tm i v), d⟩
    congr 1
    apply Array.ext_getElem?
    intro j
    rw [Array.getElem?_setIfInBounds, tarr_get?, tarr_get?, tarr_size]
    by_cases hij : i = j
    · subst hij; simp [upd]
    · rw [if_neg hij]
      simp only [upd, if_neg (fun h : j = i => hij h.symm)]
/-- What a guard sees. -/
def seesB (ops : Array Oper) (n : Nat) (tm : Nat → Value) (o : Oper) : Bool :=
  match o.guard with
  | none => true
  | some (j, b) =>
    match (ops[j]?).bind (·.dst) with
    | some x => if x < n then (match tm x with | .bool c => c == b | _ => false) else false
    | none => false
theorem wanted_act (ops : Array Oper) (n : Nat) (tm : Nat → Value) (d : List Deferred) (o : Oper) : Region.wanted o (yielded ops (act n tm d).tmps) = seesB ops n tm o := by
  unfold Region.wanted seesB
  cases hg : o.guard with
  | none => rfl
  | some p =>
    obtain ⟨j, b⟩ := p
    simp only [yielded]
    cases hx : (ops[j]?).bind (·.dst) with
    | none => simp
    | some x =>
      simp only [Option.bind_some]
      rw [show (act n tm d).tmps[x]? = if x < n then some (tm x) else none from tarr_get? n tm x]
      by_cases h : x < n
      · simp only [h, if_true]
        cases tm x <;> simp
      · simp [h]
theorem act_enter (args : Array Value) (n : Nat) (h : args.size ≤ n) :
    ({ tmps := args ++ Array.replicate (n - args.size) undef, defers := [] } : Act) = act n (fun i => (args[i]?).getD undef) [] := by
  show (⟨_, []⟩ : Act) = ⟨tarr n _, []⟩
  congr 1
  apply Array.ext_getElem?
  intro j
  rw [tarr_get?, Array.getElem?_append]
  by_cases hj : j < args.size
  · rw [if_pos hj, if_pos (by omega)]
    simp [hj]
  · rw [if_neg hj]
    by_cases hn : j < n
    · rw [if_pos hn, Array.getElem?_replicate, if_pos (by omega), Array.getElem?_eq_none (by omega)]; rfl
    · rw [if_neg hn, Array.getElem?_replicate, if_neg (by omega)]

/-! ### One operation -/
/-- No fence at all: of a function's frame (none), of a round's (some l). -/
def Fw (r : Option Nat) : Fence := { fn := fun _ => True, depth := none, alive := false, round := r }
theorem callsW {r : Option Nat} {n : Nat} {P : Program} {f : FuncId} {args : Array Value} {w : World} {R : Ending → World → Prop} (h : Calls P f args w R) : CallsIn (Fw r) n P f args w R := by
  have h' : CallsIn Fence.wide n P f args w R := callsIn_wide.2 h
  exact h'
theorem callsW' {r : Option Nat} {n : Nat} {P : Program} {f : FuncId} {args : Array Value} {w : World} {R : Ending → World → Prop} (h : CallsIn (Fw r) n P f args w R) : Calls P f args w R := by
  have h' : CallsIn Fence.wide n P f args w R := h
  exact callsIn_wide.1 h'

/-- What an operation's run must be: the value v, in a world of C'; or a call that hands back v and leaves a world of C'. -/
def Yld (r : Option Nat) (n : Nat) (P : Program) (C' : World → Prop) (v : Value) : Result Next → Prop
  | .ok (.value u) W => u = v ∧ C' W
  | .ok .skip W => v = undef ∧ C' W
  | .ok (.enter f args) W => Calls P f args W fun e W' => e = .returned v ∧ C' W'
  | .ok (.round l f tmps assign body) W => RoundIn (Fw r) (n - 1) P l f tmps assign body W fun e W' => e = .returned v ∧ C' W'
  | _ => False
def OpY (r : Option Nat) (n : Nat) (P : Program) (o : Oper) (ρ : Operand → Value) (C C' : World → Prop) (v : Value) : Prop :=
  ∀ W, C W → Yld r n P C' v ((o.semAt r ρ).run P W)

theorem wpIn_of_opY {r : Option Nat} {n : Nat} {P : Program} {o : Oper} {a : Act} {C C' : World → Prop} {v : Value} {W : World} {K : Act → World → Prop} {Q : Exit → Act → World → Prop}
    (hy : OpY r n P o a.eval C C' v) (hC : C W) (h : ∀ W', C' W' → K (a.put o.dst v) W') : o.wpIn (Fw r) n P a W K Q := by
  refine ⟨fun _ _ => trivial, ?_⟩
  have h1 := hy W hC
  show Oper.uponIn (Fw r) n P o a K Q ((o.semAt r a.eval).run P W)
  generalize (o.semAt r a.eval).run P W = res at h1 ⊢
  match res, h1 with
  | .ok (.value u) W', ⟨e, hc⟩ => subst e; exact h _ hc
  | .ok .skip W', ⟨e, hc⟩ => subst e; exact h _ hc
  | .ok (.enter f args) W', hc =>
    refine ⟨(fun hd => by cases hd), ?_⟩
    refine (callsW hc).mono ?_
    rintro e w ⟨rfl, hw⟩
    exact h _ hw
  | .ok (.round l f tmps assign body) W', hc =>
    refine ⟨(fun hd => by cases hd), ?_⟩
    refine hc.mono ?_
    rintro e w ⟨rfl, hw⟩
    exact h _ hw

/-- The operations, one behind the other. -/
def OL (r : Option Nat) (n : Nat) (P : Program) (ops : Array Oper) (Q : Exit → Act → World → Prop) : List Oper → Act → World → Prop
  | [], a, w => Q .normal a w
  | o :: rest, a, w =>
    if Region.wanted o (yielded ops a.tmps) then o.wpIn (Fw r) n P a w (OL r n P ops Q rest) Q else OL r n P ops Q rest (a.put o.dst undef) w

theorem ol_list {r : Option Nat} {n : Nat} {P : Program} {ops : Array Oper} {Q : Exit → Act → World → Prop} : ∀ (l : List Oper) (a : Act) (w : World), OL r n P ops Q l a w → wpListIn (Fw r) n P ops Q l a w
  | [], _, _, h => h
  | o :: rest, a, w, h => by
    unfold OL at h
    unfold wpListIn
    split
    · rename_i hw
      rw [if_pos hw] at h
      exact Oper.wpIn_mono (fun a w h => ol_list rest a w h) h
    · rename_i hw
      rw [if_neg hw] at h
      exact ⟨fun _ _ => trivial, ol_list rest _ _ h⟩

/-- The lexical walk of operations that stay in the class C. -/
def QW (r : Option Nat) (n : Nat) (P : Program) (ops : Array Oper) (C : World → Prop) (K : Act → Prop) : List Oper → Act → Prop
  | [], a => K a
  | o :: rest, a => if Region.wanted o (yielded ops a.tmps) then ∃ v, OpY r n P o a.eval C C v ∧ QW r n P ops C K rest (a.put o.dst v) else QW r n P ops C K rest (a.put o.dst undef)

/-! ### A region that draws its order -/
/-- Earlier operations alone are waited for; two that are not apart wait one for the other. -/
def orderB (ops : Array Oper) : Bool :=
  (List.range ops.size).all fun j => match ops[j]? with
    | none => false
    | some oj =>
      (match oj.op with | .select .. => false | .defer _ => false | _ => true) &&
      oj.after.all (fun e => !Region.binds .any e || decide (e.on < j)) &&
      (List.range j).all fun i => match ops[i]? with
        | none => false
        | some oi => oi.apart ops oj || oj.after.any (fun e => Region.binds .any e && e.on == i)
/-- From k on the operations come up one behind the other, behind all others. -/
def tailB (ops : Array Oper) (k : Nat) : Bool :=
  decide (k ≤ ops.size) && (decide (k = ops.size) || (
  (List.range k).all (fun i => (List.range (k + 1)).any fun j => decide (i < j) && Region.waitsB ops j i) &&
  (List.range ops.size).all fun t => decide (t ≤ k) || Region.waitsB ops t (t - 1)))
where
  Region.waitsB (ops : Array Oper) (j i : Nat) : Bool := match ops[j]? with
    | some oj => oj.after.any fun e => Region.binds .any e && e.on == i
    | none => false

end Go.Proofs.Ytndajeiecdmhnaa
