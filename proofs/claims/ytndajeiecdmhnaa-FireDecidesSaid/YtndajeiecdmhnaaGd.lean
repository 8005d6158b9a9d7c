/- Words for walks: single operations. -/
import Derived.Test.YtndajeiecdmhnaaGc
import Derived.Test.YtndajeiecdmhnaaGp
import Derived.Laws.StructEq
import Derived.WalkLawsBesides
namespace Go.Proofs.Ytndajeiecdmhnaa
open Go.RowKit (Below)

theorem wrap_w64 (x : Int) : IntKind.i64.wrap x = w64 x := by
  show (if (IntKind.i64.signed && decide (x % 2 ^ IntKind.i64.bits ≥ 2 ^ (IntKind.i64.bits - 1))) = true then x % 2 ^ IntKind.i64.bits - 2 ^ IntKind.i64.bits else x % 2 ^ IntKind.i64.bits) = w64 x
  unfold w64
  simp only [IntKind.signed, IntKind.bits, Bool.true_and, decide_eq_true_eq, ge_iff_le]
  split <;> omega

/-! ### What the program's table of types says, as closed facts -/
def scB (P : Program) (t : TypeId) : Bool := match P.underlying t with
  | some (.struct _) => false | some (.array ..) => false | some _ => (P.info? t).any (fun i => i.size == 1) | none => false
def aggB (P : Program) (t : TypeId) (k : Nat) : Bool := match P.underlying t with
  | some (.struct _) => (P.info? t).any (fun i => i.size == k) | some (.array ..) => (P.info? t).any (fun i => i.size == k) | _ => false
def fieldOff (P : Program) (s f : Nat) : Option Nat := match P.underlying s with
  | some (.struct fs) => match fs[f]? with
    | some fd => match P.info? fd.type with
      | some i => if i.size = 0 then none else some fd.offset
      | none => none
    | none => none
  | _ => none
def arrOf (P : Program) (t : TypeId) : Option (Nat × Nat) := match P.underlying t with
  | some (.array n e) => (P.info? e).map fun i => (n, i.size)
  | _ => none
def slOf (P : Program) (t : TypeId) : Option (TypeId × Nat) := match P.underlying t with
  | some (.slice e) => (P.info? e).map fun i => (e, i.size)
  | _ => none
def zeroOf (P : Program) (t : TypeId) : Option Value := (P.info? t).bind (·.zero)

section
variable {r : Option Nat} {n : Nat} {P : Program} {ρ : Operand → Value} {w0 : World} {L : List Res}
variable {t : Option Tmp} {ty : TypeId} {pos : String} {af : Array Edge} {g : Option (Nat × Bool)} {C C' : World → Prop}

theorem semAt_exec {op : Op} (hd : ∀ c, op ≠ .defer c) : Oper.semAt r ρ ⟨t, op, ty, pos, af, g⟩ = execOp ρ ⟨t, op, ty, pos, af, g⟩ := by
  cases r with
  | none => exact Oper.semAt_none _ _
  | some l => exact Oper.semAt_some l _ _ hd
theorem opY_val {op : Op} {v : Value} (hd : ∀ c, op ≠ .defer c) (h : ∀ W, C W → (execOp ρ ⟨t, op, ty, pos, af, g⟩).run P W = .ok (.value v) W) : OpY r n P ⟨t, op, ty, pos, af, g⟩ ρ C C v := fun W hW => by
  rw [semAt_exec hd, h W hW]
  exact ⟨rfl, hW⟩

/-! #### Values handed on -/
theorem y_move {x : Operand} {v : Value} (hx : ρ x = v) : OpY r n P ⟨t, .move x, ty, pos, af, g⟩ ρ C C v :=
  opY_val (by intro c h; cases h) (fun W _ => by subst hx; rfl)
theorem y_move_int {x : Operand} {k : IntKind} {a : Int} (hx : ρ x = .int k a) : OpY r n P ⟨t, .move x, ty, pos, af, g⟩ ρ C C (.int k a) := y_move hx
theorem y_move_bool {x : Operand} {a : Bool} (hx : ρ x = .bool a) : OpY r n P ⟨t, .move x, ty, pos, af, g⟩ ρ C C (.bool a) := y_move hx
theorem y_move_ptr {x : Operand} {b o : Nat} (hx : ρ x = .pointer (some ⟨b, o, none⟩)) : OpY r n P ⟨t, .move x, ty, pos, af, g⟩ ρ C C (.pointer (some ⟨b, o, none⟩)) := y_move hx
theorem y_move_slice {x : Operand} {a : Option Addr} {l c : Nat} (hx : ρ x = .slice a l c) : OpY r n P ⟨t, .move x, ty, pos, af, g⟩ ρ C C (.slice a l c) := y_move hx
theorem y_move_func {x : Operand} {f : Fn} {a c : Array Value} (hx : ρ x = .func f a c) : OpY r n P ⟨t, .move x, ty, pos, af, g⟩ ρ C C (.func f a c) := y_move hx
theorem y_assign {x : Operand} {v : Value} (hx : ρ x = v) : OpY r n P ⟨t, .assign x, ty, pos, af, g⟩ ρ C C v :=
  opY_val (by intro c h; cases h) (fun W _ => by subst hx; rfl)
theorem y_assign_int {x : Operand} {k : IntKind} {a : Int} (hx : ρ x = .int k a) : OpY r n P ⟨t, .assign x, ty, pos, af, g⟩ ρ C C (.int k a) := y_assign hx
theorem y_assign_bool {x : Operand} {a : Bool} (hx : ρ x = .bool a) : OpY r n P ⟨t, .assign x, ty, pos, af, g⟩ ρ C C (.bool a) := y_assign hx
theorem y_assign_slice {x : Operand} {a : Option Addr} {l c : Nat} (hx : ρ x = .slice a l c) : OpY r n P ⟨t, .assign x, ty, pos, af, g⟩ ρ C C (.slice a l c) := y_assign hx
theorem y_assign_func {x : Operand} {f : Fn} {a c : Array Value} (hx : ρ x = .func f a c) : OpY r n P ⟨t, .assign x, ty, pos, af, g⟩ ρ C C (.func f a c) := y_assign hx
theorem y_assign_nilFunc {x : Operand} (hx : ρ x = .nilFunc) : OpY r n P ⟨t, .assign x, ty, pos, af, g⟩ ρ C C .nilFunc := y_assign hx
theorem y_pick_t {c a b : Operand} {v : Value} (hc : ρ c = .bool true) (hv : ρ a = v) : OpY r n P ⟨t, .pick c a b, ty, pos, af, g⟩ ρ C C v :=
  opY_val (by intro c h; cases h) (fun W _ => by simp [execOp, hc, asBool, hv])
theorem y_pick_f {c a b : Operand} {v : Value} (hc : ρ c = .bool false) (hv : ρ b = v) : OpY r n P ⟨t, .pick c a b, ty, pos, af, g⟩ ρ C C v :=
  opY_val (by intro c h; cases h) (fun W _ => by simp [execOp, hc, asBool, hv])
theorem y_pick_tb {c a b : Operand} {p : Bool} (hc : ρ c = .bool true) (hv : ρ a = .bool p) : OpY r n P ⟨t, .pick c a b, ty, pos, af, g⟩ ρ C C (.bool p) := y_pick_t hc hv
theorem y_pick_fb {c a b : Operand} {p : Bool} (hc : ρ c = .bool false) (hv : ρ b = .bool p) : OpY r n P ⟨t, .pick c a b, ty, pos, af, g⟩ ρ C C (.bool p) := y_pick_f hc hv

/-! #### Numbers -/
theorem y_add {x y : Operand} {a b : Int} {u u' : TypeId} (hx : ρ x = .int .i64 a) (hy : ρ y = .int .i64 b) : OpY r n P ⟨t, .binOp .add u x y u', ty, pos, af, g⟩ ρ C C (.int .i64 (w64 (a + b))) :=
  opY_val (by intro c h; cases h) (fun W _ => by simp [execOp, hx, hy, go_sem, Op.intArith, wrap_w64])
theorem y_sub {x y : Operand} {a b : Int} {u u' : TypeId} (hx : ρ x = .int .i64 a) (hy : ρ y = .int .i64 b) : OpY r n P ⟨t, .binOp .sub u x y u', ty, pos, af, g⟩ ρ C C (.int .i64 (w64 (a - b))) :=
  opY_val (by intro c h; cases h) (fun W _ => by simp [execOp, hx, hy, go_sem, Op.intArith, wrap_w64])
theorem y_mul {x y : Operand} {a b : Int} {u u' : TypeId} (hx : ρ x = .int .i64 a) (hy : ρ y = .int .i64 b) : OpY r n P ⟨t, .binOp .mul u x y u', ty, pos, af, g⟩ ρ C C (.int .i64 (w64 (a * b))) :=
  opY_val (by intro c h; cases h) (fun W _ => by simp [execOp, hx, hy, go_sem, Op.intArith, wrap_w64])
theorem y_quo {x y : Operand} {a b : Int} {u u' : TypeId} (hb : b ≠ 0) (hx : ρ x = .int .i64 a) (hy : ρ y = .int .i64 b) : OpY r n P ⟨t, .binOp .quo u x y u', ty, pos, af, g⟩ ρ C C (.int .i64 (w64 (a.tdiv b))) :=
  opY_val (by intro c h; cases h) (fun W _ => by simp [execOp, hx, hy, go_sem, Op.intDiv, hb, wrap_w64])
theorem y_lss {x y : Operand} {k : IntKind} {a b : Int} {u u' : TypeId} (hx : ρ x = .int k a) (hy : ρ y = .int k b) : OpY r n P ⟨t, .binOp .lss u x y u', ty, pos, af, g⟩ ρ C C (.bool (decide (a < b))) :=
  opY_val (by intro c h; cases h) (fun W _ => by simp [execOp, hx, hy, go_sem])
theorem y_leq {x y : Operand} {k : IntKind} {a b : Int} {u u' : TypeId} (hx : ρ x = .int k a) (hy : ρ y = .int k b) : OpY r n P ⟨t, .binOp .leq u x y u', ty, pos, af, g⟩ ρ C C (.bool (decide (a ≤ b))) :=
  opY_val (by intro c h; cases h) (fun W _ => by simp [execOp, hx, hy, go_sem])
theorem y_gtr {x y : Operand} {k : IntKind} {a b : Int} {u u' : TypeId} (hx : ρ x = .int k a) (hy : ρ y = .int k b) : OpY r n P ⟨t, .binOp .gtr u x y u', ty, pos, af, g⟩ ρ C C (.bool (decide (b < a))) :=
  opY_val (by intro c h; cases h) (fun W _ => by simp [execOp, hx, hy, go_sem])
theorem y_geq {x y : Operand} {k : IntKind} {a b : Int} {u u' : TypeId} (hx : ρ x = .int k a) (hy : ρ y = .int k b) : OpY r n P ⟨t, .binOp .geq u x y u', ty, pos, af, g⟩ ρ C C (.bool (decide (b ≤ a))) :=
  opY_val (by intro c h; cases h) (fun W _ => by simp [execOp, hx, hy, go_sem])
theorem y_eql {x y : Operand} {k : IntKind} {a b : Int} {u u' : TypeId} (hx : ρ x = .int k a) (hy : ρ y = .int k b) : OpY r n P ⟨t, .binOp .eql u x y u', ty, pos, af, g⟩ ρ C C (.bool (a == b)) :=
  opY_val (by intro c h; cases h) (fun W _ => by simp [execOp, hx, hy, go_sem])
theorem y_neq {x y : Operand} {k : IntKind} {a b : Int} {u u' : TypeId} (hx : ρ x = .int k a) (hy : ρ y = .int k b) : OpY r n P ⟨t, .binOp .neq u x y u', ty, pos, af, g⟩ ρ C C (.bool (a != b)) :=
  opY_val (by intro c h; cases h) (fun W _ => by simp [execOp, hx, hy, go_sem])
theorem y_not {x : Operand} {a : Bool} {u : TypeId} (hx : ρ x = .bool a) : OpY r n P ⟨t, .unOp .not u x, ty, pos, af, g⟩ ρ C C (.bool (!a)) :=
  opY_val (by intro c h; cases h) (fun W _ => by simp [execOp, hx, Op.unary])
theorem y_min {x y : Operand} {k : IntKind} {a b : Int} {ts : Array TypeId} (hx : ρ x = .int k a) (hy : ρ y = .int k b) : OpY r n P ⟨t, .call ⟨.builtin .min, #[x, y], ts⟩, ty, pos, af, g⟩ ρ C C (.int k (min a b)) :=
  opY_val (by intro c h; cases h) (fun W _ => by
    have e : min a b = if b < a then b else a := by omega
    simp [execOp, resolve, invoke, builtin, Builtin.min_, Builtin.min2, hx, hy, e])
theorem y_max {x y : Operand} {k : IntKind} {a b : Int} {ts : Array TypeId} (hx : ρ x = .int k a) (hy : ρ y = .int k b) : OpY r n P ⟨t, .call ⟨.builtin .max, #[x, y], ts⟩, ty, pos, af, g⟩ ρ C C (.int k (max a b)) :=
  opY_val (by intro c h; cases h) (fun W _ => by
    have e : max a b = if b > a then b else a := by omega
    simp [execOp, resolve, invoke, builtin, Builtin.max_, Builtin.max2, hx, hy, e])
/-! #### Memory -/
theorem cell_of_blk {W : World} {b : Nat} {e : TypeId} {cs : Array Value} {fr : Nat × Nat} (h : W.heap[b]? = some (.cells cs e fr)) (o : Nat) : W.cell? ⟨b, o, none⟩ = cs[o]? := by
  simp [World.cell?, h]
/-- Block b: the cells cs, of type e. -/
def cellsR (b : Nat) (e : TypeId) (cs : List Value) : Res := blk b (.cells cs.toArray e (0, 0))
theorem cellsR_cell {W : World} {i b : Nat} {e : TypeId} {cs : List Value} (h : Ext w0 W L) (hL : L[i]? = some (cellsR b e cs)) (o : Nat) : W.cell? ⟨b, o, none⟩ = cs[o]? := by
  have h1 : W.heap[b]? = some (.cells cs.toArray e (0, 0)) := h.mem hL
  rw [cell_of_blk h1]; simp
theorem run_isAgg_sc {W : World} {t : TypeId} (h : scB P t = true) : (isAgg t).run P W = .ok false W := by
  unfold scB at h
  unfold isAgg underlying
  cases hu : P.underlying t with
  | none => rw [hu] at h; cases h
  | some d => rw [hu] at h; cases d <;> simp_all
theorem run_sizeOf_sc {W : World} {t : TypeId} (h : scB P t = true) : (sizeOf t).run P W = .ok 1 W := by
  unfold scB at h
  unfold sizeOf typeInfo
  cases hu : P.underlying t with
  | none => rw [hu] at h; cases h
  | some d =>
    cases hi : P.info? t with
    | none => rw [hu, hi] at h; cases d <;> simp at h
    | some i =>
      have : i.size = 1 := by rw [hu, hi] at h; cases d <;> simp at h <;> exact h
      simp [hi, this]
theorem run_isAgg_agg {W : World} {t : TypeId} {k : Nat} (h : aggB P t k = true) : (isAgg t).run P W = .ok true W := by
  unfold aggB at h
  unfold isAgg underlying
  cases hu : P.underlying t with
  | none => rw [hu] at h; cases h
  | some d => rw [hu] at h; cases d <;> simp_all
theorem run_sizeOf_agg {W : World} {t : TypeId} {k : Nat} (h : aggB P t k = true) : (sizeOf t).run P W = .ok k W := by
  unfold aggB at h
  unfold sizeOf typeInfo
  cases hu : P.underlying t with
  | none => rw [hu] at h; cases h
  | some d =>
    cases hi : P.info? t with
    | none => rw [hu, hi] at h; cases d <;> simp at h
    | some i =>
      have : i.size = k := by rw [hu, hi] at h; cases d <;> simp at h <;> exact h
      simp [hi, this]
theorem run_load1 {W : World} {t : TypeId} {a : Addr} {v : Value} (h : scB P t = true) (hc : W.cell? a = some v) : (Instr.loadAt t (.pointer (some a))).run P W = .ok v W := by
  simp [Instr.loadAt, Instr.sureAddr, loadVar, run_isAgg_sc h, hc]
theorem run_loadN {W : World} {t : TypeId} {b o : Nat} {vs : List Value} (h : aggB P t vs.length = true) (hc : ∀ j v, vs[j]? = some v → W.cell? ⟨b, o + j, none⟩ = some v) :
    (Instr.loadAt t (.pointer (some ⟨b, o, none⟩))).run P W = .ok (.agg vs.toArray) W := by
  have h1 := run_loadCells_list (P := P) W ⟨b, o, none⟩ vs (fun j v hj => by rw [Addr.add_lit]; exact hc j v hj)
  simp [Instr.loadAt, Instr.sureAddr, loadVar, run_isAgg_agg h, run_sizeOf_agg h, h1]
theorem y_load1 (i : Nat) {x : Operand} {u : TypeId} {b o : Nat} {e : TypeId} {cs : List Value} {v : Value} (hs : scB P u = true) (hL : L[i]? = some (cellsR b e cs)) (hx : ρ x = .pointer (some ⟨b, o, none⟩)) (hv : cs[o]? = some v) :
    OpY r n P ⟨t, .load u x, ty, pos, af, g⟩ ρ (fun W => Ext w0 W L) (fun W => Ext w0 W L) v :=
  opY_val (by intro c h; cases h) (fun W hW => by
    have := run_load1 (P := P) hs ((cellsR_cell hW hL o).trans hv)
    simp [execOp, hx, this])
theorem y_loadN (i : Nat) (vs : List Value) {x : Operand} {u : TypeId} {b o : Nat} {e : TypeId} {cs : List Value} (hs : aggB P u vs.length = true) (hL : L[i]? = some (cellsR b e cs)) (hx : ρ x = .pointer (some ⟨b, o, none⟩)) (hv : (cs.drop o).take vs.length = vs) :
    OpY r n P ⟨t, .load u x, ty, pos, af, g⟩ ρ (fun W => Ext w0 W L) (fun W => Ext w0 W L) (.agg vs.toArray) :=
  opY_val (by intro c h; cases h) (fun W hW => by
    have := run_loadN (P := P) (W := W) (b := b) (o := o) hs (fun j v hj => by
      rw [cellsR_cell hW hL]
      rw [← hv] at hj
      rw [List.getElem?_take] at hj
      split at hj
      · rwa [List.getElem?_drop] at hj
      · cases hj)
    simp [execOp, hx, this])
theorem y_fieldAddr {x : Operand} {s f k b o : Nat} (hf : fieldOff P s f = some k) (hx : ρ x = .pointer (some ⟨b, o, none⟩)) : OpY r n P ⟨t, .fieldAddr s x f, ty, pos, af, g⟩ ρ C C (.pointer (some ⟨b, o + k, none⟩)) :=
  opY_val (by intro c h; cases h) (fun W _ => by
    unfold fieldOff at hf
    cases hu : P.underlying s with
    | none => rw [hu] at hf; cases hf
    | some d =>
      rw [hu] at hf
      cases d with
      | struct fs =>
        simp only [] at hf
        cases hfd : fs[f]? with
        | none => rw [hfd] at hf; cases hf
        | some fd =>
          rw [hfd] at hf
          simp only [] at hf
          cases hi : P.info? fd.type with
          | none => rw [hi] at hf; cases hf
          | some i =>
            rw [hi] at hf
            simp only [] at hf
            split at hf
            · cases hf
            · rename_i h0
              injection hf with hf
              simp [execOp, hx, Instr.fieldAt, underlying, hu, hfd, Instr.sureAddr, fieldPlace, Go.sizeOf, typeInfo, hi, h0, Addr.add_lit, hf]
      | _ => cases hf)
theorem y_indexArr {x ix : Operand} {u : TypeId} {b o len sz : Nat} {k : IntKind} {i : Int} (h : arrOf P u = some (len, sz)) (h0 : 0 ≤ i) (h1 : i < len) (hx : ρ x = .pointer (some ⟨b, o, none⟩)) (hi : ρ ix = .int k i) :
    OpY r n P ⟨t, .indexAddr u x ix, ty, pos, af, g⟩ ρ C C (.pointer (some ⟨b, o + i.toNat * sz, none⟩)) :=
  opY_val (by intro c h; cases h) (fun W _ => by
    unfold arrOf at h
    cases hu : P.underlying u with
    | none => rw [hu] at h; cases h
    | some d =>
      rw [hu] at h
      cases d with
      | array ln e =>
        simp only [] at h
        cases hinf : P.info? e with
        | none => rw [hinf] at h; cases h
        | some inf =>
          rw [hinf] at h
          simp only [Option.map_some, Option.some.injEq, Prod.mk.injEq] at h
          obtain ⟨rfl, rfl⟩ := h
          simp [execOp, hx, hi, Instr.indexAt, asIntOf, underlying, hu, Instr.sureAddr, h0, h1, Go.sizeOf, typeInfo, hinf, Addr.add_lit]
      | _ => cases h)
theorem y_indexSl {x ix : Operand} {u e : TypeId} {b o len cap sz : Nat} {k : IntKind} {i : Int} (h : slOf P u = some (e, sz)) (h0 : 0 ≤ i) (h1 : i < len) (hx : ρ x = .slice (some ⟨b, o, none⟩) len cap) (hi : ρ ix = .int k i) :
    OpY r n P ⟨t, .indexAddr u x ix, ty, pos, af, g⟩ ρ C C (.pointer (some ⟨b, o + i.toNat * sz, none⟩)) :=
  opY_val (by intro c h; cases h) (fun W _ => by
    unfold slOf at h
    cases hu : P.underlying u with
    | none => rw [hu] at h; cases h
    | some d =>
      rw [hu] at h
      cases d with
      | slice e =>
        simp only [] at h
        cases hinf : P.info? e with
        | none => rw [hinf] at h; cases h
        | some inf =>
          rw [hinf] at h
          simp only [Option.map_some, Option.some.injEq, Prod.mk.injEq] at h
          obtain ⟨rfl, rfl⟩ := h
          simp [execOp, hx, hi, Instr.indexAt, asIntOf, underlying, hu, h0, h1, Go.sizeOf, typeInfo, hinf, Addr.add_lit]
      | _ => cases h)
end

end Go.Proofs.Ytndajeiecdmhnaa
