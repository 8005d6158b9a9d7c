/- Words for walks: what writes, makes or calls. -/
import Derived.Test.YtndajeiecdmhnaaGd
namespace Go.Proofs.Ytndajeiecdmhnaa
open Go.RowKit (Below)

section
variable {r : Option Nat} {n : Nat} {P : Program} {ρ : Operand → Value} {w0 : World} {L L' : List Res}
variable {t : Option Tmp} {ty : TypeId} {pos : String} {af : Array Edge} {g : Option (Nat × Bool)} {C C' : World → Prop}

theorem opY_skip {op : Op} (hd : ∀ c, op ≠ .defer c) (h : ∀ W, C W → ∃ W', (execOp ρ ⟨t, op, ty, pos, af, g⟩).run P W = .ok .skip W' ∧ C' W') : OpY r n P ⟨t, op, ty, pos, af, g⟩ ρ C C' undef := fun W hW => by
  obtain ⟨W', h1, h2⟩ := h W hW
  rw [semAt_exec hd, h1]
  exact ⟨rfl, h2⟩

/-! #### Stores -/
theorem Ext.setRow {W : World} {i b : Nat} {e : TypeId} {cs : List Value} (h : Ext w0 W L) (hL : L[i]? = some (cellsR b e cs)) (cs' : List Value) : Ext w0 (W.setRow b cs'.toArray) (L.set i (cellsR b e cs')) := by
  have h1 : W.heap[b]? = some (.cells cs.toArray e (0, 0)) := h.mem hL
  refine h.set hL (cellsR b e cs') (setRow_heap W b _ _ e _ h1) rfl rfl rfl (by simp [World.setRow]) (fun c hc hn => ?_) (fun c hc => .inl hc)
  show (W.heap.modify b _)[c]? = _
  rw [Array.getElem?_modify, if_neg (fun e => hn e.symm)]
def szB (P : Program) (t : TypeId) (k : Nat) : Bool := (P.info? t).any fun i => i.size == k
theorem run_sizeOf_sz {W : World} {t : TypeId} {k : Nat} (h : szB P t k = true) : (Go.sizeOf t).run P W = .ok k W := by
  unfold szB at h
  cases hi : P.info? t with
  | none => rw [hi] at h; cases h
  | some i =>
    rw [hi] at h
    have : i.size = k := by simpa using h
    simp [Go.sizeOf, typeInfo, hi, this]
theorem run_storeAt {W : World} {i b o : Nat} {e ty' : TypeId} {cs : List Value} {v : Value} (h : Ext w0 W L) (hL : L[i]? = some (cellsR b e cs)) (hs : szB P ty' v.cells.size = true) (h1 : ∀ u ∈ v.cells.toList, u.oneCell' = true) (hl : o + v.cells.size ≤ cs.length) :
    (Instr.storeAt ty' (.pointer (some ⟨b, o, none⟩)) v).run P W = .ok () (W.setRow b (cs.take o ++ v.cells.toList ++ cs.drop (o + v.cells.size)).toArray) := by
  have hb : W.heap[b]? = some (.cells cs.toArray e (0, 0)) := h.mem hL
  have := run_storeCells_at (P := P) b o e v.cells.toList 0 cs.toArray W hb (by simpa using hl) h1
  simp only [Nat.add_zero] at this
  simp [Instr.storeAt, Instr.sureAddr, storeVar, run_sizeOf_sz hs, this]
/-- A value of one cell. -/
theorem y_store1 (i : Nat) {x y : Operand} {u : TypeId} {b o : Nat} {e : TypeId} {cs : List Value} {v : Value} (hs : szB P u 1 = true) (hL : L[i]? = some (cellsR b e cs)) (hl : o < cs.length) (hx : ρ x = .pointer (some ⟨b, o, none⟩)) (hy : ρ y = v) (h1 : v.oneCell' = true) :
    OpY r n P ⟨t, .store u x y, ty, pos, af, g⟩ ρ (fun W => Ext w0 W L) (fun W => Ext w0 W (L.set i (cellsR b e (cs.set o v)))) undef :=
  opY_skip (by intro c h; cases h) (fun W hW => by
    have hc : v.cells = #[v] := by cases v <;> first | rfl | cases h1
    have := run_storeAt (P := P) (v := v) hW hL (by rw [hc]; exact hs) (by rw [hc]; simpa using h1) (by rw [hc]; show o + 1 ≤ cs.length; omega)
    refine ⟨_, by simp only [execOp, hx, hy]; rw [Sem.run_bind, this]; rfl, ?_⟩
    have e : cs.take o ++ v.cells.toList ++ cs.drop (o + v.cells.size) = cs.set o v := by
      rw [hc]
      simp only [List.size_toArray, List.length_cons, List.length_nil]
      rw [List.set_eq_take_append_cons_drop, if_pos hl]
      simp
    rw [e]
    exact hW.setRow hL _)
theorem y_storeN (i : Nat) (vs : List Value) {x y : Operand} {u : TypeId} {b o : Nat} {e : TypeId} {cs : List Value} (hs : szB P u vs.length = true) (hL : L[i]? = some (cellsR b e cs)) (hl : o + vs.length ≤ cs.length) (hx : ρ x = .pointer (some ⟨b, o, none⟩)) (hy : ρ y = .agg vs.toArray) (h1 : (vs.all (·.oneCell')) = true) :
    OpY r n P ⟨t, .store u x y, ty, pos, af, g⟩ ρ (fun W => Ext w0 W L) (fun W => Ext w0 W (L.set i (cellsR b e (cs.take o ++ vs ++ cs.drop (o + vs.length))))) undef :=
  opY_skip (by intro c h; cases h) (fun W hW => by
    have := run_storeAt (P := P) (v := .agg vs.toArray) (o := o) hW hL (by simpa [Value.cells] using hs) (by simpa [Value.cells] using h1) (by simpa [Value.cells] using hl)
    refine ⟨_, by simp only [execOp, hx, hy]; rw [Sem.run_bind, this]; rfl, ?_⟩
    have := hW.setRow hL (cs.take o ++ vs ++ cs.drop (o + vs.length))
    simpa [Value.cells] using this)

/-! #### Structs and arrays by value -/
theorem y_build (cells : List Value) {u : TypeId} {parts : List (Nat × Operand)} {z : Value} {fs : Array Field} (hu : P.underlying u = some (.struct fs)) (hz : zeroOf P u = some z)
    (sz : List (Nat × Nat)) (hsz : fs.toList.map (fun f => ((P.info? f.type).map (fun i => (f.offset, i.size)))) = sz.map some)
    (hfill : Instr.fill (fun x => sz.toArray[x]?) z.cells (parts.map fun p => (p.1, ρ p.2)) = some cells.toArray) :
    OpY r n P ⟨t, .build u parts.toArray, ty, pos, af, g⟩ ρ C C (.agg cells.toArray) :=
  opY_val (by intro c h; cases h) (fun W _ => by
    obtain ⟨inf, hinf, hzz⟩ : ∃ inf, P.info? u = some inf ∧ inf.zero = some z := by
      unfold zeroOf at hz
      cases hi : P.info? u with
      | none => rw [hi] at hz; cases hz
      | some inf => rw [hi] at hz; exact ⟨inf, rfl, hz⟩
    have hm : ∀ (l : List Field) (s : List (Nat × Nat)), l.map (fun f => ((P.info? f.type).map (fun i => (f.offset, i.size)))) = s.map some →
        (l.mapM (fun f => do let k ← Go.sizeOf f.type; pure (f.offset, k)) : Sem (List (Nat × Nat))).run P W = .ok s W := by
      intro l
      induction l with
      | nil => intro s hs; cases s with
        | nil => rfl
        | cons a s => simp at hs
      | cons f l ih =>
        intro s hs
        cases s with
        | nil => simp at hs
        | cons a s =>
          simp only [List.map_cons, List.cons.injEq] at hs
          obtain ⟨h1, h2⟩ := hs
          cases hi : P.info? f.type with
          | none => rw [hi] at h1; cases h1
          | some inf =>
            rw [hi] at h1
            simp only [Option.map_some, Option.some.injEq] at h1
            have e1 : ((do let k ← Go.sizeOf f.type; pure (f.offset, k)) : Sem (Nat × Nat)).run P W = .ok a W := by simp [Go.sizeOf, typeInfo, hi, h1]
            rw [List.mapM_cons, Sem.run_bind, e1, Result.andThen_ok, Sem.run_bind, ih s h2]
            rfl
    have hm2 : (fs.mapM (fun f => do let k ← Go.sizeOf f.type; pure (f.offset, k)) : Sem (Array (Nat × Nat))).run P W = .ok sz.toArray W := by
      rw [Array.mapM_eq_mapM_toList, Sem.run_map, hm fs.toList sz hsz]
      rfl
    have hz1 : (zeroValue u).run P W = .ok z W := by simp [zeroValue, typeInfo, hinf, hzz]
    have hu1 : (underlying u).run P W = .ok (.struct fs) W := by simp [underlying, hu]
    have hb : (Instr.build u (parts.toArray.map fun (i, x) => (i, ρ x))).run P W = .ok (.agg cells.toArray) W := by
      have e1 : (parts.toArray.map fun (i, x) => (i, ρ x)).toList = parts.map fun p => (p.1, ρ p.2) := by simp
      simp only [Instr.build, Sem.run_bind, hz1, hu1, Result.andThen_ok, hm2, e1, hfill]
      rfl
    simp only [execOp, Sem.run_bind, hb]
    rfl)
/-! #### len, cuts -/
theorem y_len {x : Operand} {u : TypeId} {a : Option Addr} {l c : Nat} {e : TypeId} {us : List TypeId} (hu : P.underlying u = some (.slice e)) (hx : ρ x = .slice a l c) : OpY r n P ⟨t, .call ⟨.builtin .len, #[x], (u :: us).toArray⟩, ty, pos, af, g⟩ ρ C C (.int .i64 (l : Int)) :=
  opY_val (by intro c h; cases h) (fun W _ => by simp [execOp, resolve, invoke, builtin, Builtin.len_, hx, underlying, hu, goInt])
theorem y_makeFunc {f : Fn} {first caps : List Operand} (vs : List Value) (hf : first = []) (hc : caps.map ρ = vs) : OpY r n P ⟨t, .makeFunc f first.toArray caps.toArray, ty, pos, af, g⟩ ρ C C (.func f #[] vs.toArray) :=
  opY_val (by intro c h; cases h) (fun W _ => by
    subst hf hc
    simp [execOp, Instr.makeFunc])

/-! #### Calls -/
def goes (P : Program) (f : FuncId) : Bool := match P.funcs[f]? with
  | some fn => !(fn.name == "runtime.NumGoroutine") && !fn.body.isNone
  | none => false
theorem run_goes {f : FuncId} (h : goes P f = true) (args : Array Value) (W : World) : (callFunc f args).run P W = .ok (.enter f args) W := by
  unfold goes at h
  cases hf : P.funcs[f]? with
  | none => rw [hf] at h; cases h
  | some fn =>
    rw [hf] at h
    simp only [Bool.and_eq_true, Bool.not_eq_true'] at h
    have h1 : ¬ fn.name = "runtime.NumGoroutine" := by simpa using h.1
    have h2 : ¬ fn.body = none := by have := h.2; intro e; rw [e] at this; cases this
    simp [callFunc, hf, h1, h2]
theorem y_call {f : FuncId} {xs : List Operand} {us : Array TypeId} (vs : List Value) {v : Value} (hf : goes P f = true) (ha : xs.map ρ = vs)
    (h : ∀ W, Ext w0 W L → Calls P f vs.toArray W fun e W' => e = .returned v ∧ Ext W W' []) (hρ : ρ (.func f) = .func (.func f) #[] #[]) :
    OpY r n P ⟨t, .call ⟨.value (.func f), xs.toArray, us⟩, ty, pos, af, g⟩ ρ (fun W => Ext w0 W L) (fun W => Ext w0 W L) v := fun W hW => by
  rw [semAt_exec (by intro c h; cases h)]
  subst ha
  have e : (execOp ρ ⟨t, .call ⟨.value (.func f), xs.toArray, us⟩, ty, pos, af, g⟩).run P W = .ok (.enter f (xs.map ρ).toArray) W := by
    simp [execOp, resolve, hρ, Deferred.ofValue, invoke, run_goes hf]
  rw [e]
  refine (h W hW).mono ?_
  rintro e W' ⟨rfl, hx⟩
  exact ⟨rfl, hW.below' hx.below⟩
theorem y_callv {f : FuncId} {x : Operand} {xs : List Operand} {us : Array TypeId} {caps : List Value} (vs : List Value) {v : Value} (hf : goes P f = true) (hx : ρ x = .func (.func f) #[] caps.toArray) (ha : xs.map ρ = vs)
    (h : ∀ W, Ext w0 W L → Calls P f (vs ++ caps).toArray W fun e W' => e = .returned v ∧ Ext W W' []) :
    OpY r n P ⟨t, .call ⟨.value x, xs.toArray, us⟩, ty, pos, af, g⟩ ρ (fun W => Ext w0 W L) (fun W => Ext w0 W L) v := fun W hW => by
  rw [semAt_exec (by intro c h; cases h)]
  subst ha
  have e : (execOp ρ ⟨t, .call ⟨.value x, xs.toArray, us⟩, ty, pos, af, g⟩).run P W = .ok (.enter f (xs.map ρ ++ caps).toArray) W := by
    simp [execOp, resolve, hx, Deferred.ofValue, invoke, run_goes hf]
  rw [e]
  refine (h W hW).mono ?_
  rintro e W' ⟨rfl, hx⟩
  exact ⟨rfl, hW.below' hx.below⟩
end

section
variable {r : Option Nat} {n : Nat} {P : Program} {ops : Array Oper} {Q : Exit → Act → World → Prop} {w0 : World} {L L' : List Res} {m : Nat} {tm : Nat → Value} {d : List Deferred}
variable {t : Tmp} {ty : TypeId} {pos : String} {af : Array Edge} {g : Option (Nat × Bool)} {rest : List Oper}

/-- One operation whose value hangs on the world. -/
theorem ox_step {op : Op} (hw : seesB ops m tm ⟨some t, op, ty, pos, af, g⟩ = true) (hd : ∀ c, op ≠ .defer c)
    (h : ∀ W, Ext w0 W L → ∃ v W' L', (execOp (opv m tm) ⟨some t, op, ty, pos, af, g⟩).run P W = .ok (.value v) W' ∧ Ext w0 W' L' ∧ OX r n P ops Q w0 L' rest m (upd tm t v) d) :
    OX r n P ops Q w0 L (⟨some t, op, ty, pos, af, g⟩ :: rest) m tm d := fun W hW => by
  obtain ⟨v, W', L', h1, h2, h3⟩ := h W hW
  unfold OL
  rw [wanted_act, if_pos hw]
  refine ⟨fun _ _ => trivial, ?_⟩
  show Oper.uponIn (Fw r) n P _ _ _ Q ((Oper.semAt r (act m tm d).eval _).run P W)
  rw [semAt_exec hd, eval_act, h1]
  show OL r n P ops Q rest ((act m tm d).put (some t) v) W'
  rw [put_act]
  exact h3 W' h2
theorem ox_alloc {e : TypeId} {z : Value} (hz : zeroOf P e = some z) (hw : seesB ops m tm ⟨some t, .alloc e, ty, pos, af, g⟩ = true)
    (h : ∀ b, OX r n P ops Q w0 (L ++ [cellsR b e z.cells.toList]) rest m (upd tm t (.pointer (some ⟨b, 0, none⟩))) d) : OX r n P ops Q w0 L (⟨some t, .alloc e, ty, pos, af, g⟩ :: rest) m tm d :=
  ox_step hw (by intro c h; cases h) fun W hW => by
    obtain ⟨inf, hinf, hzz⟩ : ∃ inf, P.info? e = some inf ∧ inf.zero = some z := by
      unfold zeroOf at hz
      cases hi : P.info? e with
      | none => rw [hi] at hz; cases hz
      | some inf => rw [hi] at hz; exact ⟨inf, rfl, hz⟩
    refine ⟨_, W.alloc (.cells z.cells e), _, ?_, ?_, h W.heap.size⟩
    · simp only [execOp, Instr.alloc, zeroValue, typeInfo, newVar, newRow]
      simp [hinf, hzz]
    · have := hW.alloc (.cells z.cells e)
      simpa [cellsR] using this
theorem ox_box {e : TypeId} {x : Operand} (cs : List Value) {v : Value} (hx : opv m tm x = v) (hc : v.cells = cs.toArray) (hw : seesB ops m tm ⟨some t, .box e x, ty, pos, af, g⟩ = true)
    (h : ∀ b, OX r n P ops Q w0 (L ++ [cellsR b e cs]) rest m (upd tm t (.pointer (some ⟨b, 0, none⟩))) d) : OX r n P ops Q w0 L (⟨some t, .box e x, ty, pos, af, g⟩ :: rest) m tm d :=
  ox_step hw (by intro c h; cases h) fun W hW => by
    refine ⟨_, W.alloc (.cells cs.toArray e), _, ?_, ?_, h W.heap.size⟩
    · simp only [execOp, Instr.box, newVar, newRow, hx, hc]
      simp
    · exact hW.alloc (.cells cs.toArray e)
/-- A call that hands back something of which not all is known. -/
theorem ox_call {α : Type} {f : FuncId} {xs : List Operand} {us : Array TypeId} (vs : List Value) (φ : α → Prop) (val : α → Value) (res : α → List Res) (hw : seesB ops m tm ⟨some t, .call ⟨.value (.func f), xs.toArray, us⟩, ty, pos, af, g⟩ = true) (hf : goes P f = true) (ha : xs.map (opv m tm) = vs)
    (hc : ∀ W, Ext w0 W L → Calls P f vs.toArray W fun e W' => ∃ x : α, φ x ∧ e = .returned (val x) ∧ Ext W W' (res x))
    (h : ∀ x, φ x → OX r n P ops Q w0 (L ++ res x) rest m (upd tm t (val x)) d) : OX r n P ops Q w0 L (⟨some t, .call ⟨.value (.func f), xs.toArray, us⟩, ty, pos, af, g⟩ :: rest) m tm d := fun W hW => by
  unfold OL
  rw [wanted_act, if_pos hw]
  refine ⟨fun _ _ => trivial, ?_⟩
  show Oper.uponIn (Fw r) n P _ _ _ Q ((Oper.semAt r (act m tm d).eval _).run P W)
  have e : (execOp (opv m tm) ⟨some t, .call ⟨.value (.func f), xs.toArray, us⟩, ty, pos, af, g⟩).run P W = .ok (.enter f (xs.map (opv m tm)).toArray) W := by
    have hρ : opv m tm (.func f) = .func (.func f) #[] #[] := rfl
    simp [execOp, resolve, hρ, Deferred.ofValue, invoke, run_goes hf]
  rw [semAt_exec (by intro c h; cases h), eval_act, e, ha]
  refine ⟨(fun hd => by cases hd), ?_⟩
  refine (callsW (hc W hW)).mono ?_
  rintro e W' ⟨x, hφ, rfl, hx⟩
  show OL r n P ops Q rest ((act m tm d).put (some t) (val x)) W'
  rw [put_act]
  exact h x hφ W' (hW.append hx)

/-! #### Where a function begins and ends -/
theorem calls_enter {f : FuncId} {fn : Func} {c : Code} {vs : List Value} {W : World} {R : Ending → World → Prop} (hf : P.funcs[f]? = some fn) (hb : fn.body = some c) (hn : fn.ntmps = m) (hl : vs.length ≤ m)
    (h : CX none 8 P c (bodyPost P fn R) W [] m (fun i => (vs[i]?).getD undef) []) : Calls P f vs.toArray W R := by
  refine callsW' (r := none) (n := 8) (callsIn_of_wp hf hb trivial ?_ rfl)
  rw [act_enter _ _ (by rw [hn]; simpa using hl), hn]
  have := h W (Ext.nil W)
  simpa using this
theorem ex_result0 {fn : Func} {R : Ending → World → Prop} {e : Exit} (he : e = .ret ∨ e = .normal) (hr : fn.results = #[]) (h : ∀ W, Ext w0 W L → R (.returned (.tuple #[])) W) : EX (bodyPost P fn R) e w0 L m tm [] := fun W hW => by
  rcases he with rfl | rfl <;> exact ⟨rfl, _, by simp [results, hr], h W hW⟩
/-- One result, or one of several. -/
def rvSem (tmps : Array Value) (x : ResultVar) : Sem Value := match x with
  | .tmp t => pure (tmps.getD t undef)
  | .cell a t => do let p ← asAddr (tmps.getD a undef); loadVar t p
def resV (P : Program) (m : Nat) (tm : Nat → Value) (w0 : World) (L : List Res) (x : ResultVar) (v : Value) : Prop :=
  ∀ W, Ext w0 W L → (rvSem (act m tm []).tmps x).run P W = .ok v W
theorem results_rv (fn : Func) (tmps : Array Value) : results fn tmps = (do let vs ← fn.results.mapM (rvSem tmps); pure (if h : vs.size = 1 then vs[0] else .tuple vs)) := rfl
theorem resV_tmp {x : Tmp} {v : Value} (hx : opv m tm (.tmp x) = v) : resV P m tm w0 L (.tmp x) v := fun W _ => by
  have := congrFun (eval_act m tm []) (.tmp x)
  have e : (act m tm []).tmps.getD x undef = v := this.trans hx
  show (pure ((act m tm []).tmps.getD x undef) : Sem Value).run P W = .ok v W
  rw [e]
  rfl
theorem resV_cellN (i : Nat) (vs : List Value) {x : Tmp} {u : TypeId} {b o : Nat} {e : TypeId} {cs : List Value} (hs : aggB P u vs.length = true) (hL : L[i]? = some (cellsR b e cs)) (hx : opv m tm (.tmp x) = .pointer (some ⟨b, o, none⟩)) (hv : (cs.drop o).take vs.length = vs) : resV P m tm w0 L (.cell x u) (.agg vs.toArray) := fun W hW => by
  have := congrFun (eval_act m tm []) (.tmp x)
  have e : (act m tm []).tmps.getD x undef = .pointer (some ⟨b, o, none⟩) := this.trans hx
  have h1 := run_loadN (P := P) (W := W) (b := b) (o := o) hs (fun j v hj => by
      rw [cellsR_cell hW hL]
      rw [← hv] at hj
      rw [List.getElem?_take] at hj
      split at hj
      · rwa [List.getElem?_drop] at hj
      · cases hj)
  simp only [Instr.loadAt, Instr.sureAddr, Sem.run_bind, Sem.run_pure, Result.andThen_ok] at h1
  simp only [rvSem, e]
  simp [asAddr, h1]
theorem resV_cell1 (i : Nat) {x : Tmp} {u : TypeId} {b o : Nat} {e : TypeId} {cs : List Value} {v : Value} (hs : scB P u = true) (hL : L[i]? = some (cellsR b e cs)) (hx : opv m tm (.tmp x) = .pointer (some ⟨b, o, none⟩)) (hv : cs[o]? = some v) : resV P m tm w0 L (.cell x u) v := fun W hW => by
  have := congrFun (eval_act m tm []) (.tmp x)
  have e : (act m tm []).tmps.getD x undef = .pointer (some ⟨b, o, none⟩) := this.trans hx
  have h1 := run_load1 (P := P) hs ((cellsR_cell hW hL o).trans hv)
  simp only [Instr.loadAt, Instr.sureAddr, Sem.run_bind, Sem.run_pure, Result.andThen_ok] at h1
  simp only [rvSem, e]
  simp [asAddr, h1]
theorem ex_res1 {fn : Func} {x : ResultVar} {R : Ending → World → Prop} {v : Value} {e : Exit} (he : e = .ret ∨ e = .normal) (hr : fn.results = #[x]) (hx : resV P m tm w0 L x v) (h : ∀ W, Ext w0 W L → R (.returned v) W) : EX (bodyPost P fn R) e w0 L m tm [] := fun W hW => by
  have h1 := hx W hW
  have : ∃ v, (results fn (act m tm []).tmps).run P W = .ok v W ∧ R (.returned v) W := by
    refine ⟨v, ?_, h W hW⟩
    rw [results_rv, hr, Array.mapM_eq_mapM_toList]
    simp only [List.mapM_cons, List.mapM_nil, Sem.run_bind, Sem.run_map, h1, Result.andThen_ok, Sem.run_pure]
    rfl
  rcases he with rfl | rfl <;> exact ⟨rfl, this⟩
theorem ex_res2 {fn : Func} {x y : ResultVar} {R : Ending → World → Prop} {v u : Value} {e : Exit} (he : e = .ret ∨ e = .normal) (hr : fn.results = #[x, y]) (hx : resV P m tm w0 L x v) (hy : resV P m tm w0 L y u) (h : ∀ W, Ext w0 W L → R (.returned (.tuple #[v, u])) W) : EX (bodyPost P fn R) e w0 L m tm [] := fun W hW => by
  have h1 := hx W hW
  have h2 := hy W hW
  have : ∃ v, (results fn (act m tm []).tmps).run P W = .ok v W ∧ R (.returned v) W := by
    refine ⟨.tuple #[v, u], ?_, h W hW⟩
    rw [results_rv, hr, Array.mapM_eq_mapM_toList]
    simp only [List.mapM_cons, List.mapM_nil, Sem.run_bind, Sem.run_map, h1, h2, Result.andThen_ok, Sem.run_pure]
    rfl
  rcases he with rfl | rfl <;> exact ⟨rfl, this⟩
theorem ex_res3 {fn : Func} {x y z : ResultVar} {R : Ending → World → Prop} {v u s : Value} {e : Exit} (he : e = .ret ∨ e = .normal) (hr : fn.results = #[x, y, z]) (hx : resV P m tm w0 L x v) (hy : resV P m tm w0 L y u) (hz : resV P m tm w0 L z s) (h : ∀ W, Ext w0 W L → R (.returned (.tuple #[v, u, s])) W) : EX (bodyPost P fn R) e w0 L m tm [] := fun W hW => by
  have h1 := hx W hW
  have h2 := hy W hW
  have h3 := hz W hW
  have : ∃ v, (results fn (act m tm []).tmps).run P W = .ok v W ∧ R (.returned v) W := by
    refine ⟨.tuple #[v, u, s], ?_, h W hW⟩
    rw [results_rv, hr, Array.mapM_eq_mapM_toList]
    simp only [List.mapM_cons, List.mapM_nil, Sem.run_bind, Sem.run_map, h1, h2, h3, Result.andThen_ok, Sem.run_pure]
    rfl
  rcases he with rfl | rfl <;> exact ⟨rfl, this⟩
end

end Go.Proofs.Ytndajeiecdmhnaa
