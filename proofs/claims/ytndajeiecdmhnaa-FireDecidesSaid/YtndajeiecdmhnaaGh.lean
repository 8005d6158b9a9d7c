/- Words for walks: slices that are read, and rows that a call owns. -/
import Derived.Test.YtndajeiecdmhnaaGg
import Derived.Test.YtndajeiecdmhnaaGp
import Derived.Maps.AppendAt
namespace Go.Proofs.Ytndajeiecdmhnaa
open Go.RowKit (Below)

/-! ### A slice that is read -/
/-- The slice '.slice A n c' reads, cell by cell, as cs. -/
structure Rd (W : World) (A : Option Addr) (n c : Nat) (cs : List Value) : Prop where
  cell : ∀ (j : Nat) (v : Value), cs[j]? = some v → ∃ b o, A = some ⟨b, o, none⟩ ∧ W.cell? ⟨b, o + j, none⟩ = some v
  cap : n ≤ c
def RdL (w0 : World) (L : List Res) (A : Option Addr) (n c : Nat) (cs : List Value) : Prop := ∀ W, Ext w0 W L → Rd W A n c cs
/-- Its element's cell, as a pointer. -/
def slA (A : Option Addr) (j : Nat) : Value := .pointer (some ⟨(A.getD ⟨0, 0, none⟩).block, (A.getD ⟨0, 0, none⟩).off + j, none⟩)
theorem Rd.later {W W' : World} {A : Option Addr} {n c : Nat} {cs : List Value} (h : Rd W A n c cs) (hb : Below W.heap.size W W') : Rd W' A n c cs :=
  ⟨fun j v hj => by
    obtain ⟨b, o, e, hc⟩ := h.cell j v hj
    exact ⟨b, o, e, (hb.cell (World.block_lt_of_cell? W _ hc)).trans hc⟩, h.cap⟩
theorem RdL.arg {w0 : World} {L : List Res} {A : Option Addr} {n c : Nat} {cs : List Value} (h : Rd w0 A n c cs) : RdL w0 L A n c cs := fun _ hW => h.later hW.below
/-- An owned row. -/
def rowR (A : Option Addr) (c : Nat) (e : TypeId) (sz n : Nat) (cs : List Value) : Res where
  dom b := ∃ a, A = some a ∧ a.block = b
  holds W := W.ownsRow 0 e sz (.slice A n c) n cs
  loc W W' h _ hh := by
    obtain ⟨h1, h2⟩ := hh
    refine ⟨h1, ?_⟩
    rcases h2 with h2 | ⟨g, cap, cur, hv, hb, hg, h3⟩
    · exact .inl h2
    · refine .inr ⟨g, cap, cur, hv, hb, ?_, h3⟩
      simp only [Value.slice.injEq] at hv
      rw [h g ⟨_, hv.1, rfl⟩]
      exact hg
  inb W h b hb := by
    obtain ⟨a, rfl, rfl⟩ := hb
    exact (World.ownsRow.lt h a.block (by simp [Value.ownBlock])).2
theorem rowR_rd {W : World} {A : Option Addr} {c : Nat} {e : TypeId} {sz n : Nat} {cs : List Value} (h : (rowR A c e sz n cs).holds W) : Rd W A n c cs := by
  have h' : W.ownsRow 0 e sz (.slice A n c) n cs := h
  rcases h'.2 with ⟨h2, h3⟩ | ⟨g, cap, cur, hv, hb, hg, h3, h4, h5, h6⟩
  · simp only [Value.slice.injEq] at h2
    refine ⟨fun j v hj => ?_, by omega⟩
    have := h'.1
    rw [h3] at this
    simp at this
    rw [this] at hj
    simp at hj
  · simp only [Value.slice.injEq] at hv
    obtain ⟨rfl, _, rfl⟩ := hv
    refine ⟨fun j v hj => ⟨g, 0, rfl, ?_⟩, h3⟩
    have hl : j < n * sz := by
      have h7 := (List.getElem?_eq_some_iff.1 hj).1
      rw [h'.1] at h7
      exact h7
    rw [Nat.zero_add, h'.cellAt j hl]
    exact hj
theorem RdL.row {w0 : World} {L : List Res} (i : Nat) {A : Option Addr} {n c : Nat} {e : TypeId} {sz : Nat} {cs : List Value} (h : L[i]? = some (rowR A c e sz n cs)) : RdL w0 L A n c cs := fun _ hW => rowR_rd (hW.mem h)

section
variable {r : Option Nat} {n : Nat} {P : Program} {ρ : Operand → Value} {w0 : World} {L : List Res}
variable {t : Option Tmp} {ty : TypeId} {pos : String} {af : Array Edge} {g : Option (Nat × Bool)}
variable {A : Option Addr} {k c : Nat} {cs : List Value}

theorem y_indexR {x ix : Operand} {u e : TypeId} {sz : Nat} {q : IntKind} {i : Int} (hs : slOf P u = some (e, sz)) (hsz : 0 < sz) (h0 : 0 ≤ i) (h1 : i < k) (hR : RdL w0 L A k c cs) (hl : cs.length = k * sz) (hx : ρ x = .slice A k c) (hi : ρ ix = .int q i) :
    OpY r n P ⟨t, .indexAddr u x ix, ty, pos, af, g⟩ ρ (fun W => Ext w0 W L) (fun W => Ext w0 W L) (slA A (i.toNat * sz)) := fun W hW => by
  have hk : 0 < cs.length := by
    rw [hl]
    have : 0 < k := by omega
    exact Nat.mul_pos this hsz
  obtain ⟨b, o, rfl, _⟩ := (hR W hW).cell 0 cs[0] (by simp [hk])
  exact y_indexSl (C := fun W => Ext w0 W L) hs h0 h1 hx hi W hW
theorem y_fieldAddrR {x : Operand} {s f j q : Nat} {C : World → Prop} (hf : fieldOff P s f = some q) (hx : ρ x = slA A j) : OpY r n P ⟨t, .fieldAddr s x f, ty, pos, af, g⟩ ρ C C (slA A (j + q)) := by
  have := y_fieldAddr (r := r) (n := n) (t := t) (ty := ty) (pos := pos) (af := af) (g := g) (C := C) hf (x := x) (ρ := ρ) (b := (A.getD ⟨0, 0, none⟩).block) (o := (A.getD ⟨0, 0, none⟩).off + j) hx
  rw [Nat.add_assoc] at this
  exact this
theorem y_loadR1 {x : Operand} {u : TypeId} {j : Nat} {v : Value} (hs : scB P u = true) (hR : RdL w0 L A k c cs) (hx : ρ x = slA A j) (hv : cs[j]? = some v) :
    OpY r n P ⟨t, .load u x, ty, pos, af, g⟩ ρ (fun W => Ext w0 W L) (fun W => Ext w0 W L) v :=
  opY_val (by intro c h; cases h) (fun W hW => by
    obtain ⟨b, o, rfl, hc⟩ := (hR W hW).cell j v hv
    have := run_load1 (P := P) hs hc
    have hx' : ρ x = .pointer (some ⟨b, o + j, none⟩) := hx
    simp [execOp, hx', this])
theorem y_loadRN (vs : List Value) {x : Operand} {u : TypeId} {j : Nat} (hs : aggB P u vs.length = true) (hp : 0 < vs.length) (hR : RdL w0 L A k c cs) (hx : ρ x = slA A j) (hv : ∀ q v, vs[q]? = some v → cs[j + q]? = some v) :
    OpY r n P ⟨t, .load u x, ty, pos, af, g⟩ ρ (fun W => Ext w0 W L) (fun W => Ext w0 W L) (.agg vs.toArray) :=
  opY_val (by intro c h; cases h) (fun W hW => by
    obtain ⟨b, o, rfl, hc⟩ := (hR W hW).cell j vs[0] (by have := hv 0 vs[0] (by simp [hp]); simpa using this)
    have hx' : ρ x = .pointer (some ⟨b, o + j, none⟩) := hx
    have := run_loadN (P := P) (W := W) (b := b) (o := o + j) hs (fun q v hq => by
      obtain ⟨b', o', e, hc'⟩ := (hR W hW).cell (j + q) v (hv q v hq)
      simp only [Option.some.injEq, Addr.mk.injEq, and_true] at e
      obtain ⟨rfl, rfl⟩ := e
      rw [Nat.add_assoc]
      exact hc')
    simp [execOp, hx', this])
theorem Rd.cut {W : World} {l h sz : Nat} (hr : Rd W A k c cs) (h1 : l ≤ h) (h2 : h ≤ k) : Rd W (if c = l then A else A.map (·.add (l * sz))) (h - l) (c - l) ((cs.drop (l * sz)).take ((h - l) * sz)) := by
  have hcap := hr.cap
  refine ⟨fun j v hj => ?_, by omega⟩
  have hj' : (cs.drop (l * sz))[j]? = some v := by
    rw [List.getElem?_take] at hj
    split at hj
    · exact hj
    · cases hj
  rw [List.getElem?_drop] at hj'
  obtain ⟨b, o, rfl, hc⟩ := hr.cell _ v hj'
  split
  · rename_i e
    have : h - l = 0 := by omega
    rw [this, Nat.zero_mul] at hj
    simp at hj
  · refine ⟨b, o + l * sz, ?_, ?_⟩
    · simp [Addr.add_lit]
    · rw [Nat.add_assoc]; exact hc
end

/-! ### Rows -/
theorem owns_none (W : World) (e : TypeId) (sz : Nat) : W.ownsRow 0 e sz (.slice none 0 0) 0 [] := World.ownsRow_nil _ _ _ _
def bytesB (P : Program) (e : TypeId) (z : Value) (sz by' : Nat) : Bool := match P.info? e with
  | some i => i.size == sz && i.bytes == by' && decide (0 < by') && decide (0 < sz) && z.cells.size == sz
  | none => false
section
variable {r : Option Nat} {n : Nat} {P : Program} {ops : Array Oper} {Q : Exit → Act → World → Prop} {w0 : World} {L : List Res} {m : Nat} {tm : Nat → Value} {d : List Deferred}
variable {t : Tmp} {ty : TypeId} {pos : String} {af : Array Edge} {g : Option (Nat × Bool)} {l rest : List Oper}

/-- Nothing is owned, as a row. -/
theorem Ext.nilrow {W : World} (h : Ext w0 W L) (e : TypeId) (sz : Nat) : Ext w0 W (L ++ [rowR none 0 e sz 0 []]) :=
  h.snoc (p := rowR none 0 e sz 0 []) (owns_none W e sz) (fun b hb => by obtain ⟨a, ha, _⟩ := hb; cases ha) (fun i q _ b _ hb => by obtain ⟨a, ha, _⟩ := hb; cases ha)
theorem cx_nilrow {c : Code} (e : TypeId) (sz : Nat) (h : CX r n P c Q w0 (L ++ [rowR none 0 e sz 0 []]) m tm d) : CX r n P c Q w0 L m tm d := fun W hW => h W (hW.nilrow e sz)

/-- A literal slice. -/
theorem ox_buildSlice (len : Nat) (cs : List Value) {u e : TypeId} {parts : List (Nat × Operand)} {z : Value} {sz by' : Nat} (hu : P.underlying u = some (.slice e)) (hz : zeroOf P e = some z) (hb : bytesB P e z sz by' = true) (hlen : 0 < len) (hsm : len * sz ≤ 16777216)
    (hfill : Instr.fill (fun i => some (i * sz, sz)) (madeCells z.cells (len * sz)) (parts.map fun p => (p.1, opv m tm p.2)) = some cs.toArray) (hcs : cs.length = len * sz)
    (hw : seesB ops m tm ⟨some t, .buildSlice u len parts.toArray, ty, pos, af, g⟩ = true)
    (h : ∀ b, OX r n P ops Q w0 (L ++ [rowR (some ⟨b, 0, none⟩) len e sz len cs]) rest m (upd tm t (.slice (some ⟨b, 0, none⟩) len len)) d) :
    OX r n P ops Q w0 L (⟨some t, .buildSlice u len parts.toArray, ty, pos, af, g⟩ :: rest) m tm d :=
  ox_step hw (by intro c h; cases h) fun W hW => by
    obtain ⟨inf, hinf, hzz⟩ : ∃ inf, P.info? e = some inf ∧ inf.zero = some z := by
      unfold zeroOf at hz
      cases hi : P.info? e with
      | none => rw [hi] at hz; cases hz
      | some inf => rw [hi] at hz; exact ⟨inf, rfl, hz⟩
    unfold bytesB at hb
    rw [hinf] at hb
    simp only [Bool.and_eq_true, beq_iff_eq, decide_eq_true_eq] at hb
    obtain ⟨⟨⟨⟨h1, h2⟩, h3⟩, h4⟩, h5⟩ := hb
    have hne : ¬ len * sz = 0 := by
      have := Nat.mul_pos hlen h4
      omega
    have hsm' : ¬ 2 ^ 24 < len * sz := by omega
    have hu1 : (underlying u).run P W = .ok (.slice e) W := by simp [underlying, hu]
    have hsz : (Go.sizeOf e).run P W = .ok sz W := by simp [Go.sizeOf, typeInfo, hinf, h1]
    have hz1 : (zeroValue e).run P W = .ok z W := by simp [zeroValue, typeInfo, hinf, hzz]
    have hb : (Instr.buildSlice u len (parts.toArray.map fun (i, x) => (i, opv m tm x))).run P W = .ok (.slice (some ⟨W.heap.size, 0, none⟩) len len) (W.alloc (.cells cs.toArray e)) := by
      have e1 : (parts.toArray.map fun (i, x) => (i, opv m tm x)).toList = parts.map fun p => (p.1, opv m tm p.2) := by simp
      simp only [Instr.buildSlice, Sem.run_bind, hu1, Result.andThen_ok, hsz, Sem.run_ite, gt_iff_lt, if_neg hsm', if_neg hne, hz1, e1, Sem.run_pure]
      rw [show (Array.map (fun x => z.cells[x % z.cells.size]!) (Array.range (len * sz))) = madeCells z.cells (len * sz) from rfl, hfill]
      simp [newRow]
    refine ⟨_, W.alloc (.cells cs.toArray e), _, ?_, ?_, h W.heap.size⟩
    · simp only [execOp, Sem.run_bind, hb]
      rfl
    · have hW' := hW.alloc (.cells cs.toArray e)
      have hk : (rowR (some ⟨W.heap.size, 0, none⟩) len e sz len cs).holds (W.alloc (.cells cs.toArray e)) := by
        have := World.ownsRow_lit (base := 0) (e := e) (size := sz) W cs.toArray len (Nat.zero_le _) (by simp only [maxLen]; have := Nat.le_mul_of_pos_right len h4; omega) (by simpa using hcs)
        have e3 : cs.toArray.toList = cs := rfl
        rw [e3] at this
        exact this
      have h7 : Ext w0 (W.alloc (.cells cs.toArray e)) L := hW.keep (hW.below.alloc hW.size _) (by simp) (fun i p hp b hd => Below.heap_alloc W _ b (p.inb W (hW.all i p hp) b hd))
      refine h7.snoc hk (fun b hb => ?_) (fun i q hq b hb hb' => ?_)
      · obtain ⟨a, ha, rfl⟩ := hb
        cases ha
        exact hW.size
      · obtain ⟨a, ha, rfl⟩ := hb'
        cases ha
        have := q.inb W (hW.all i q hq) _ hb
        exact absurd this (Nat.lt_irrefl _)
/-- 'append(x, y...)', x a row of the call's own. -/
theorem ox_append (i : Nat) {x y : Operand} {u e : TypeId} {A B : Option Addr} {c c' k q : Nat} {sz by' : Nat} {cs news : List Value} {z : Value} (hu : P.underlying u = some (.slice e)) (hz : zeroOf P e = some z) (hb : bytesB P e z sz by' = true)
    (hL : L[i]? = some (rowR A c e sz k cs)) (hx : opv m tm x = .slice A k c) (hy : opv m tm y = .slice B q c') (hq : 0 < q) (hR : RdL w0 L B q c' news) (hn : news.length = q * sz) (h1 : (news.all (·.oneCell')) = true) (hg : (k + q) * by' ≤ 140737488355328)
    (hw : seesB ops m tm ⟨some t, .call ⟨.builtin .append, #[x, y], #[u, u]⟩, ty, pos, af, g⟩ = true)
    (h : ∀ A' c', OX r n P ops Q w0 (L.set i (rowR A' c' e sz (k + q) (cs ++ news))) rest m (upd tm t (.slice A' (k + q) c')) d) :
    OX r n P ops Q w0 L (⟨some t, .call ⟨.builtin .append, #[x, y], #[u, u]⟩, ty, pos, af, g⟩ :: rest) m tm d :=
  ox_step hw (by intro c h; cases h) fun W hW => by
    obtain ⟨inf, hinf, hzz⟩ : ∃ inf, P.info? e = some inf ∧ inf.zero = some z := by
      unfold zeroOf at hz
      cases hi : P.info? e with
      | none => rw [hi] at hz; cases hz
      | some inf => rw [hi] at hz; exact ⟨inf, rfl, hz⟩
    unfold bytesB at hb
    rw [hinf] at hb
    simp only [Bool.and_eq_true, beq_iff_eq, decide_eq_true_eq] at hb
    obtain ⟨⟨⟨⟨h2, h3⟩, h4⟩, h5⟩, h6⟩ := hb
    have hp : 0 < news.length := by rw [hn]; exact Nat.mul_pos hq h5
    obtain ⟨b, o, rfl, _⟩ := (hR W hW).cell 0 news[0] (by simp [hp])
    have hlen : k + q ≤ 140737488355328 := Nat.le_trans (Nat.le_mul_of_pos_right _ h4) hg
    have hown : W.ownsRow 0 e sz (.slice A k c) k cs := hW.mem hL
    obtain ⟨v', W', hr, hown', hgr, hnil, hat⟩ := run_append_own_at (P := P) W 0 u ty e inf z sz by' hu hinf hzz h2 h3 h6 h5 (.slice A k c) k cs hown ⟨b, o, none⟩ q c' news hn
      (fun j v hj => by
        obtain ⟨b', o', e', hc⟩ := (hR W hW).cell j v hj
        simp only [Option.some.injEq, Addr.mk.injEq, and_true] at e'
        obtain ⟨rfl, rfl⟩ := e'
        rw [Addr.add_lit]
        exact hc) (by simpa using h1) (by simp only [maxLen]; omega) hg (Nat.zero_le _)
    have hshape : ∃ A' cc, v' = .slice A' (k + q) cc := by
      rcases hown'.2 with ⟨h7, h8⟩ | ⟨g', cap, cur, h7, _⟩
      · exact ⟨none, 0, by rw [h7, h8]⟩
      · exact ⟨_, cap, h7⟩
    obtain ⟨A', cc, rfl⟩ := hshape
    refine ⟨_, W', _, ?_, ?_, h A' cc⟩
    · simp only [execOp, resolve, invoke, builtin]
      simp [hx, hy, hr]
    · refine hW.set hL (rowR A' cc e sz (k + q) (cs ++ news)) hown' hgr.os hgr.tape hgr.output hgr.size (fun b' hb' hnd => ?_) (fun b' hb' => ?_)
      · refine hgr.block b' hb' (fun e' => hnd ?_)
        cases A with
        | none => simp [Value.ownBlock] at e'
        | some a => exact ⟨a, rfl, by simpa [Value.ownBlock] using e'.symm⟩
      · obtain ⟨a, rfl, rfl⟩ := hb'
        rcases hat with h9 | h9
        · left
          cases A with
          | none => simp [Value.ownBlock] at h9
          | some a0 => exact ⟨a0, rfl, by simpa [Value.ownBlock] using h9.symm⟩
        · right
          have : a.block = W.heap.size := by simpa [Value.ownBlock] using h9
          omega
end

/-! ### Lists of elements -/
def encL {α : Type} (cells : α → List Value) (xs : List α) : List Value := xs.flatMap cells
def cI (x : Int) : List Value := [.int .i64 x]
theorem encL_len {α : Type} {cells : α → List Value} {sz : Nat} (hc : ∀ x, (cells x).length = sz) {n : Nat} {xs : List α} (hn : n = xs.length) : (encL cells xs).length = n * sz := by
  subst hn
  unfold encL
  induction xs with
  | nil => simp
  | cons x xs ih => simp [hc, ih, Nat.add_mul, Nat.add_comm]
theorem encL_get' {α : Type} {cells : α → List Value} {sz : Nat} (hc : ∀ x, (cells x).length = sz) {d : α} (q : Nat) (hq : q < sz) : ∀ (xs : List α) (j : Nat), j < xs.length → (encL cells xs)[j * sz + q]? = (cells (xs.getD j d))[q]?
  | [], j, h => by simp at h
  | x :: xs, 0, _ => by
    have : q < (cells x).length := by rw [hc]; exact hq
    simp [encL, List.getElem?_append_left this]
  | x :: xs, j + 1, h => by
    have ih := encL_get' hc (d := d) q hq xs j (by simpa using h)
    have hge : (cells x).length ≤ (j + 1) * sz + q := by rw [hc, Nat.add_mul]; omega
    unfold encL at ih ⊢
    rw [List.flatMap_cons, List.getElem?_append_right hge, hc, show (j + 1) * sz + q - sz = j * sz + q by rw [Nat.add_mul]; omega, ih]
    simp
theorem encL_get {α : Type} [Inhabited α] {cells : α → List Value} {sz : Nat} (hc : ∀ x, (cells x).length = sz) {xs : List α} {i : Int} {q : Nat} {v : Value} (h0 : 0 ≤ i) (h1 : i < (xs.length : Int)) (hv : (cells (rdL xs i))[q]? = some v) : (encL cells xs)[i.toNat * sz + q]? = some v := by
  have hq : q < sz := by rw [← hc (rdL xs i)]; exact (List.getElem?_eq_some_iff.1 hv).1
  rw [encL_get' hc (d := default) q hq xs i.toNat (by omega)]
  exact hv
theorem encL_get0 {α : Type} [Inhabited α] {cells : α → List Value} {sz : Nat} (hc : ∀ x, (cells x).length = sz) {xs : List α} {i : Int} {v : Value} (h0 : 0 ≤ i) (h1 : i < (xs.length : Int)) (hv : (cells (rdL xs i))[0]? = some v) : (encL cells xs)[i.toNat * sz]? = some v := encL_get hc h0 h1 hv
theorem encL_gets {α : Type} [Inhabited α] {cells : α → List Value} {sz : Nat} (hc : ∀ x, (cells x).length = sz) {xs : List α} {i : Int} (h0 : 0 ≤ i) (h1 : i < (xs.length : Int)) : ∀ q v, (cells (rdL xs i))[q]? = some v → (encL cells xs)[i.toNat * sz + q]? = some v := fun _ _ hv => encL_get hc h0 h1 hv
section
variable {r : Option Nat} {n : Nat} {P : Program} {ρ : Operand → Value} {w0 : World} {L : List Res}
variable {t : Option Tmp} {ty : TypeId} {pos : String} {af : Array Edge} {g : Option (Nat × Bool)}
end
section
variable {r : Option Nat} {n : Nat} {P : Program} {ops : Array Oper} {Q : Exit → Act → World → Prop} {w0 : World} {L : List Res} {m : Nat} {tm : Nat → Value} {d : List Deferred}
theorem RdL.cells (i : Nat) {b : Nat} {e : TypeId} {cs : List Value} (h : L[i]? = some (cellsR b e cs)) : RdL w0 L (some ⟨b, 0, none⟩) 1 1 cs := fun W hW =>
  ⟨fun j v hj => ⟨b, 0, rfl, by rw [Nat.zero_add, cellsR_cell hW h]; exact hj⟩, Nat.le_refl _⟩
/-- One piece alone; none; two. -/
theorem Ext.pick {W : World} (h : Ext w0 W L) (i : Nat) {p : Res} (hp : L[i]? = some p) : Ext w0 W [p] := by
  have hg : ∀ (j : Nat) (q : Res), [p][j]? = some q → j = 0 ∧ q = p := fun j q hq => by
    cases j with
    | zero => simp at hq; exact ⟨rfl, hq.symm⟩
    | succ j => simp at hq
  exact ⟨h.below, fun j q hq => by obtain ⟨_, rfl⟩ := hg j q hq; exact h.all i _ hp, fun j q hq => by obtain ⟨_, rfl⟩ := hg j q hq; exact h.new i _ hp,
    fun j k q s hq hs hne => by obtain ⟨rfl, _⟩ := hg j q hq; obtain ⟨rfl, _⟩ := hg k s hs; exact absurd rfl hne⟩
theorem Ext.none {W : World} (h : Ext w0 W L) : Ext w0 W [] := h.take 0
end

end Go.Proofs.Ytndajeiecdmhnaa
