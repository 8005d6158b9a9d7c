/- Words for walks: what the printed walks name. -/
import Derived.Test.YtndajeiecdmhnaaGh
import Derived.Test.YtndajeiecdmhnaaGp
import Derived.KernelRfl
import Derived.Scope
namespace Go.Proofs.Ytndajeiecdmhnaa
open Go.RowKit (Below)

theorem and_t {p q : Bool} (h : p = true) : q = (p && q) := by subst h; rfl
theorem and_f {p : Bool} {q : Bool} (h : p = false) : false = (p && q) := by subst h; rfl
theorem or_t {p : Bool} {q : Bool} (h : p = true) : true = (p || q) := by subst h; rfl
theorem or_f {p q : Bool} (h : p = false) : q = (p || q) := by subst h; rfl
theorem bool_cases (p : Bool) : p = true ∨ p = false := by cases p <;> simp
theorem lt_nat {α : Type} {xs : List α} {n : Nat} {i : Int} (h : i < (n : Int)) (hn : n = xs.length) : i < (xs.length : Int) := by subst hn; exact h
theorem hn_set {α : Type} {xs : List α} {n j : Nat} {v : α} (h : n = xs.length) : n = (xs.set j v).length := by rw [List.length_set]; exact h
theorem hn_app {α : Type} {xs ys : List α} {n k : Nat} (h : n = xs.length) (h' : k = ys.length) : n + k = (xs ++ ys).length := by rw [List.length_append, h, h']
theorem gets_all {cs vs : List Value} {j : Nat} (h : (cs.drop j).take vs.length = vs) : ∀ q v, vs[q]? = some v → cs[j + q]? = some v := fun q v hq => by
  rw [← h, List.getElem?_take] at hq
  split at hq
  · rw [List.getElem?_drop] at hq; exact hq
  · cases hq
theorem encL_one {α : Type} {cells : α → List Value} (h : ∀ x, ((cells x).all (·.oneCell')) = true) (xs : List α) : ((encL cells xs).all (·.oneCell')) = true := by
  unfold encL
  induction xs with
  | nil => rfl
  | cons x xs ih => rw [List.flatMap_cons, List.all_append, h, ih]; rfl
theorem encL_app {α : Type} {cells : α → List Value} (xs ys : List α) : encL cells xs ++ encL cells ys = encL cells (xs ++ ys) := by simp [encL]
theorem cI_len (x : Int) : (cI x).length = 1 := rfl
theorem cI_one (x : Int) : ((cI x).all (·.oneCell')) = true := rfl
theorem app_room {k q b : Nat} (h : k + q ≤ 1000000000) (hb : b ≤ 100000) : (k + q) * b ≤ 140737488355328 :=
  Nat.le_trans (Nat.mul_le_mul h hb) (by decide)
theorem Rd.nil {W : World} {cs : List Value} (h : cs = []) : Rd W none 0 0 cs := ⟨fun j v hj => by subst h; simp at hj, Nat.le_refl _⟩
theorem belowT {W W2 W3 : World} (h : Below W.heap.size W W2) (h' : Below W2.heap.size W2 W3) : Below W.heap.size W W3 := h.trans (h'.mono h.size)
theorem encL_drop {α : Type} {cells : α → List Value} {sz : Nat} (hc : ∀ x, (cells x).length = sz) : ∀ (xs : List α) (k : Nat), (encL cells xs).drop (k * sz) = encL cells (xs.drop k)
  | xs, 0 => by simp
  | [], k + 1 => by simp [encL]
  | x :: xs, k + 1 => by
    have ih := encL_drop hc xs k
    unfold encL at ih ⊢
    rw [List.flatMap_cons, Nat.add_mul, Nat.one_mul, Nat.add_comm, ← List.drop_drop, ← hc x, List.drop_left, hc x]
    exact ih
theorem encL_take {α : Type} {cells : α → List Value} {sz : Nat} (hc : ∀ x, (cells x).length = sz) : ∀ (xs : List α) (k : Nat), (encL cells xs).take (k * sz) = encL cells (xs.take k)
  | xs, 0 => by simp [encL]
  | [], k + 1 => by simp [encL]
  | x :: xs, k + 1 => by
    have ih := encL_take hc xs k
    unfold encL at ih ⊢
    rw [List.flatMap_cons, List.take_succ_cons, List.flatMap_cons, Nat.add_mul, Nat.one_mul, Nat.add_comm, ← hc x, List.take_length_add_append, hc x, ih]
section
variable {w0 : World} {L : List Res}
theorem RdL.cut {α : Type} {cells : α → List Value} {sz : Nat} (hc : ∀ x, (cells x).length = sz) {A : Option Addr} {n c : Nat} {xs : List α} {lo hi : Int} (h : RdL w0 L A n c (encL cells xs)) (h0 : 0 ≤ lo) (h1 : lo ≤ hi) (h2 : hi ≤ (n : Int)) (_hn : n = xs.length) :
    RdL w0 L (if c = lo.toNat then A else A.map (fun x => x.add (lo.toNat * sz))) (hi.toNat - lo.toNat) (c - lo.toNat) (encL cells ((xs.drop lo.toNat).take (hi.toNat - lo.toNat))) := fun W hW => by
  have := (h W hW).cut (sz := sz) (l := lo.toNat) (h := hi.toNat) (by omega) (by omega)
  rw [encL_drop hc, encL_take hc] at this
  exact this
end
section
variable {r : Option Nat} {n : Nat} {P : Program} {ρ : Operand → Value} {w0 : World} {L L' : List Res}
variable {t : Option Tmp} {ty : TypeId} {pos : String} {af : Array Edge} {g : Option (Nat × Bool)} {C C' : World → Prop}
def strB (P : Program) (t : TypeId) (sz : List (Nat × Nat)) : Bool := match P.underlying t with
  | some (.struct fs) => decide (fs.toList.map (fun f => ((P.info? f.type).map (fun i => (f.offset, i.size)))) = sz.map some)
  | _ => false
theorem y_buildS (cells : List Value) {u : TypeId} {parts : List (Nat × Operand)} {z : Value} (sz : List (Nat × Nat)) (hu : strB P u sz = true) (hz : zeroOf P u = some z)
    (hfill : Instr.fill (fun x => sz.toArray[x]?) z.cells (parts.map fun p => (p.1, ρ p.2)) = some cells.toArray) :
    OpY r n P ⟨t, .build u parts.toArray, ty, pos, af, g⟩ ρ C C (.agg cells.toArray) := by
  unfold strB at hu
  split at hu
  · rename_i fs h1
    exact y_build cells h1 hz sz (of_decide_eq_true hu) hfill
  · cases hu
theorem y_buildA (cells : List Value) {u : TypeId} {parts : List (Nat × Operand)} {z : Value} {len e size : Nat} (hu : P.underlying u = some (.array len e)) (hz : zeroOf P u = some z) (hs : szB P e size = true)
    (hfill : Instr.fill (fun i => some (i * size, size)) z.cells (parts.map fun p => (p.1, ρ p.2)) = some cells.toArray) :
    OpY r n P ⟨t, .build u parts.toArray, ty, pos, af, g⟩ ρ C C (.agg cells.toArray) :=
  opY_val (by intro c h; cases h) (fun W _ => by
    obtain ⟨inf, hinf, hzz⟩ : ∃ inf, P.info? u = some inf ∧ inf.zero = some z := by
      unfold zeroOf at hz
      cases hi : P.info? u with
      | none => rw [hi] at hz; cases hz
      | some inf => rw [hi] at hz; exact ⟨inf, rfl, hz⟩
    have hz1 : (zeroValue u).run P W = .ok z W := by simp [zeroValue, typeInfo, hinf, hzz]
    have hu1 : (underlying u).run P W = .ok (.array len e) W := by simp [underlying, hu]
    have e1 : (parts.toArray.map fun (i, x) => (i, ρ x)).toList = parts.map fun p => (p.1, ρ p.2) := by simp
    have hb : (Instr.build u (parts.toArray.map fun (i, x) => (i, ρ x))).run P W = .ok (.agg cells.toArray) W := by
      simp only [Instr.build, Sem.run_bind, hz1, hu1, Result.andThen_ok, run_sizeOf_sz hs, e1, hfill]
      rfl
    simp only [execOp, Sem.run_bind, hb]
    rfl)
end
section
variable {r : Option Nat} {n : Nat} {P : Program} {ops : Array Oper} {Q : Exit → Act → World → Prop} {w0 : World} {L : List Res} {m : Nat} {tm : Nat → Value} {d : List Deferred}
variable {t : Tmp} {ty : TypeId} {pos : String} {af : Array Edge} {g : Option (Nat × Bool)} {l rest : List Oper}
theorem ox_appendE (i : Nat) {α : Type} {cells : α → List Value} {xs ys : List α} {x y : Operand} {u e : TypeId} {A B : Option Addr} {c c' k q : Nat} {sz by' : Nat} {z : Value} (hu : P.underlying u = some (.slice e)) (hz : zeroOf P e = some z) (hb : bytesB P e z sz by' = true)
    (hL : L[i]? = some (rowR A c e sz k (encL cells xs))) (hx : opv m tm x = .slice A k c) (hy : opv m tm y = .slice B q c') (hq : 0 < q) (hR : RdL w0 L B q c' (encL cells ys)) (hn : (encL cells ys).length = q * sz) (h1 : ((encL cells ys).all (·.oneCell')) = true) (hg : (k + q) * by' ≤ 140737488355328)
    (hw : seesB ops m tm ⟨some t, .call ⟨.builtin .append, #[x, y], #[u, u]⟩, ty, pos, af, g⟩ = true)
    (h : ∀ A' c', OX r n P ops Q w0 (L.set i (rowR A' c' e sz (k + q) (encL cells (xs ++ ys)))) rest m (upd tm t (.slice A' (k + q) c')) d) :
    OX r n P ops Q w0 L (⟨some t, .call ⟨.builtin .append, #[x, y], #[u, u]⟩, ty, pos, af, g⟩ :: rest) m tm d :=
  ox_append i hu hz hb hL hx hy hq hR hn h1 hg hw (fun A' c' => by rw [encL_app]; exact h A' c')
/-- A call that hands back a value and what it has made, told by one thing more. -/
theorem ox_call1 {α : Type} {f : FuncId} {xs : List Operand} {us : Array TypeId} (vs : List Value) (val : α → Value) (res : α → List Res) (hw : seesB ops m tm ⟨some t, .call ⟨.value (.func f), xs.toArray, us⟩, ty, pos, af, g⟩ = true) (hf : goes P f = true) (ha : xs.map (opv m tm) = vs)
    (hc : ∀ W, Ext w0 W L → Calls P f vs.toArray W fun e W' => ∃ x : α, e = .returned (val x) ∧ Ext W W' (res x))
    (h : ∀ x, OX r n P ops Q w0 (L ++ res x) rest m (upd tm t (val x)) d) : OX r n P ops Q w0 L (⟨some t, .call ⟨.value (.func f), xs.toArray, us⟩, ty, pos, af, g⟩ :: rest) m tm d :=
  ox_call vs (fun _ => True) val res hw hf ha (fun W hW => (hc W hW).mono (fun e W' h => by obtain ⟨x, h1, h2⟩ := h; exact ⟨x, trivial, h1, h2⟩)) (fun x _ => h x)
end
section
variable {F : Fence} {n : Nat} {P : Program} {Q : Exit → Act → World → Prop} {a : Act} {w : World}
section
variable {b : Frame} {k : List Item} {cs : List Frame}
theorem stepR_scope {c : Code} : step P (lone (b.atR a (.code (.scope c) :: k)) cs w) = .next (lone (b.atR a (.code c :: .inScope c :: k)) cs w) :=
  step_lone_go (by simp [stepG, stepG.exec, Frame.atR])
theorem stepR_inScope {c : Code} : step P (lone (b.atR a (.inScope c :: k)) cs w) = .next (lone (b.atR a k) cs w) :=
  step_lone_go (by simp [stepG, stepG.exec, Frame.atR])
end
theorem wpIn_scope {c : Code} (h : c.wpIn F n P (Exit.noGoto Q) a w) : (Code.scope c).wpIn F n P Q a w := by
  intro b k cs hro hb hr
  have h0 : (lone (b.atR a (.code (.scope c) :: k)) cs w).fenced P F := fenced_calm hb hr rfl
  obtain ⟨e, a₁, w₁, hq, harr⟩ := h b (.inScope c :: k) cs hro hb hr
  cases e with
  | normal => exact ⟨.normal, a₁, w₁, hq, .head h0 stepR_scope (StepsIn.trans harr (.one (fenced_calm hb hr rfl) stepR_inScope))⟩
  | exit id =>
    have hx : exitTo id (.inScope c :: k) = exitTo id k := by simp [exitTo]
    exact ⟨.exit id, a₁, w₁, hq, fun k' hk => .head h0 stepR_scope (harr.1 k' (by rw [hx]; exact hk)),
        fun hr' hk => let ⟨k₁, h1, h2⟩ := harr.2 hr' (by rw [hx]; exact hk); ⟨k₁, h1, .head h0 stepR_scope h2⟩⟩
  | goto l => exact hq.elim
  | ret => exact ⟨_, a₁, w₁, hq, .of_steps (.one h0 stepR_scope) harr⟩
  | panic ch => exact ⟨_, a₁, w₁, hq, .of_steps (.one h0 stepR_scope) harr⟩
  | outgrown => exact ⟨_, a₁, w₁, hq, .of_steps (.one h0 stepR_scope) harr⟩
end
section
variable {r : Option Nat} {n : Nat} {P : Program} {Q : Exit → Act → World → Prop} {w0 : World} {L : List Res} {m : Nat} {tm : Nat → Value} {d : List Deferred}
theorem cx_scope {x : Code} (h : CX r n P x (Exit.noGoto Q) w0 L m tm d) : CX r n P (.scope x) Q w0 L m tm d := fun W hW => wpIn_scope (h W hW)
theorem cx_label {l : Nat} (h : EX Q .normal w0 L m tm d) : CX r n P (.label l) Q w0 L m tm d := fun W hW => wpIn_label (h W hW)
theorem ex_scope_ret (h : EX Q .ret w0 L m tm d) : EX (Exit.noGoto Q) .ret w0 L m tm d := h
end
section
variable {r : Option Nat} {n : Nat} {P : Program} {ops : Array Oper} {Q : Exit → Act → World → Prop} {w0 : World} {L : List Res} {m : Nat} {tm : Nat → Value} {d : List Deferred}
variable {t : Tmp} {ty : TypeId} {pos : String} {af : Array Edge} {g : Option (Nat × Bool)} {l rest : List Oper}
/-- A literal slice, its zero cells spelled. -/
theorem ox_buildSliceE (len : Nat) (cs : List Value) (mc : Array Value) {u e : TypeId} {parts : List (Nat × Operand)} {z : Value} {sz by' : Nat} (hmc : madeCells z.cells (len * sz) = mc) (hu : P.underlying u = some (.slice e)) (hz : zeroOf P e = some z) (hb : bytesB P e z sz by' = true) (hlen : 0 < len) (hsm : len * sz ≤ 16777216)
    (hfill : Instr.fill (fun i => some (i * sz, sz)) mc (parts.map fun p => (p.1, opv m tm p.2)) = some cs.toArray) (hcs : cs.length = len * sz)
    (hw : seesB ops m tm ⟨some t, .buildSlice u len parts.toArray, ty, pos, af, g⟩ = true)
    (h : ∀ b, OX r n P ops Q w0 (L ++ [rowR (some ⟨b, 0, none⟩) len e sz len cs]) rest m (upd tm t (.slice (some ⟨b, 0, none⟩) len len)) d) :
    OX r n P ops Q w0 L (⟨some t, .buildSlice u len parts.toArray, ty, pos, af, g⟩ :: rest) m tm d :=
  ox_buildSlice len cs hu hz hb hlen hsm (by rw [hmc]; exact hfill) hcs hw h
end
end Go.Proofs.Ytndajeiecdmhnaa
