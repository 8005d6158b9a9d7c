/- Words for walks: appends of nothing, open cuts, fields of elements, maps of raw values, two ranges in a function. -/
import Derived.Test.YtndajeiecdmhnaaGz
import Derived.Test.YtndajeiecdmhnaaGq
import Derived.Test.YtndajeiecdmhnaaG1
import Derived.Laws.OwnMore
import Derived.Lib.SliceRun
import Derived.Maps.OwnSet
import Derived.DeepKeys4
namespace Go.Proofs.Ytndajeiecdmhnaa
open Go.RowKit (Below)

section
variable {w0 : World} {L : List Res}
/-- Two pieces alone. -/
theorem Ext.pick2 {W : World} (h : Ext w0 W L) (i j : Nat) (hij : i ≠ j) {p q : Res} (hp : L[i]? = some p) (hq : L[j]? = some q) : Ext w0 W [p, q] := by
  have hg : ∀ (k : Nat) (s : Res), [p, q][k]? = some s → (k = 0 ∧ s = p) ∨ (k = 1 ∧ s = q) := fun k s hs => by
    match k, hs with
    | 0, hs => simp at hs; exact .inl ⟨rfl, hs.symm⟩
    | 1, hs => simp at hs; exact .inr ⟨rfl, hs.symm⟩
  refine ⟨h.below, fun k s hs => ?_, fun k s hs => ?_, fun k l s s' hs hs' hne => ?_⟩
  · rcases hg k s hs with ⟨_, rfl⟩ | ⟨_, rfl⟩
    · exact h.all i _ hp
    · exact h.all j _ hq
  · rcases hg k s hs with ⟨_, rfl⟩ | ⟨_, rfl⟩
    · exact h.new i _ hp
    · exact h.new j _ hq
  · rcases hg k s hs with ⟨a, rfl⟩ | ⟨a, rfl⟩ <;> rcases hg l s' hs' with ⟨b, rfl⟩ | ⟨b, rfl⟩
    · omega
    · exact h.sep i j _ _ hp hq hij
    · exact h.sep j i _ _ hq hp (Ne.symm hij)
    · omega
/-- A row's head. -/
theorem rowR_head {W : World} {A : Option Addr} {c : Nat} {e : TypeId} {sz n k : Nat} {cs : List Value} (h : (rowR A c e sz n cs).holds W) (hk : k ≤ n) (h0 : A = none → k = 0) : (rowR A c e sz k (cs.take (k * sz))).holds W := by
  obtain ⟨h1, h2⟩ := h
  have hks : k * sz ≤ n * sz := Nat.mul_le_mul_right _ hk
  refine ⟨by rw [List.length_take, h1]; omega, ?_⟩
  rcases h2 with ⟨h2, h3⟩ | ⟨g, cap, cur, hv, hb, hg, h3, h4, h5, h6⟩
  · simp only [Value.slice.injEq] at h2
    obtain ⟨rfl, _, rfl⟩ := h2
    have := h0 rfl
    subst this
    exact .inl ⟨rfl, rfl⟩
  · simp only [Value.slice.injEq] at hv
    obtain ⟨rfl, _, rfl⟩ := hv
    refine .inr ⟨g, c, cur, rfl, hb, hg, by omega, h4, h5, ?_⟩
    rw [← h6, List.take_take, Nat.min_eq_left hks]
/-- A piece is told otherwise. -/
theorem Ext.tell {W : World} (h : Ext w0 W L) (i : Nat) {p q : Res} (hp : L[i]? = some p) (hq : p.holds W → q.holds W) (hd : ∀ b, q.dom b → p.dom b) : Ext w0 W (L.set i q) :=
  h.set hp q (hq (h.all i p hp)) rfl rfl rfl (Nat.le_refl _) (fun _ _ _ => rfl) (fun b hb => .inl (hd b hb))
end

section
variable {r : Option Nat} {n : Nat} {P : Program} {ρ : Operand → Value} {w0 : World} {L : List Res}
variable {t : Option Tmp} {ty : TypeId} {pos : String} {af : Array Edge} {g : Option (Nat × Bool)}
variable {A : Option Addr} {k c : Nat} {cs : List Value}
theorem slOf_inv {u e : TypeId} {sz : Nat} (hs : slOf P u = some (e, sz)) : P.underlying u = some (.slice (P.elem u)) ∧ ∀ W, (Go.sizeOf (P.elem u)).run P W = .ok sz W := by
  unfold slOf at hs
  cases hu : P.underlying u with
  | none => rw [hu] at hs; cases hs
  | some d =>
    rw [hu] at hs
    cases d with
    | slice e' =>
      simp only [] at hs
      cases hinf : P.info? e' with
      | none => rw [hinf] at hs; cases hs
      | some inf =>
        rw [hinf] at hs
        simp only [Option.map_some, Option.some.injEq, Prod.mk.injEq] at hs
        obtain ⟨rfl, rfl⟩ := hs
        have e1 : P.elem u = e' := by simp [Program.elem, hu]
        exact ⟨by rw [e1], fun W => by rw [e1]; simp [Go.sizeOf, typeInfo, hinf]⟩
    | _ => cases hs
/-- 'x[lo:]'. -/
theorem y_cutL {x a : Operand} {u e : TypeId} {sz : Nat} {q : IntKind} {lo : Int} (hs : slOf P u = some (e, sz)) (h0 : 0 ≤ lo) (h1 : lo ≤ k) (_hR : RdL w0 L A k c cs) (hx : ρ x = .slice A k c) (ha : ρ a = .int q lo) :
    OpY r n P ⟨t, .slice u x (some a) none none, ty, pos, af, g⟩ ρ (fun W => Ext w0 W L) (fun W => Ext w0 W L) (.slice (if c = lo.toNat then A else A.map (·.add (lo.toNat * sz))) (k - lo.toNat) (c - lo.toNat)) :=
  opY_val (by intro c h; cases h) (fun W _ => by
    obtain ⟨hu', hsz⟩ := slOf_inv hs
    simp only [execOp, hx, ha, Option.map_some, Option.map_none, Sem.run_bind, run_sliceAt_slice W u _ _ _ _ hu', run_slice_l W u A k c hu' q lo h0 h1, hsz, Result.andThen_ok, sliced]
    rfl)
theorem cutH_len {α : Type} {xs : List α} {n : Nat} {hi : Int} (h2 : hi ≤ (n : Int)) (hn : n = xs.length) : hi.toNat = (xs.take hi.toNat).length := by rw [List.length_take, ← hn]; omega
end

section
variable {r : Option Nat} {n : Nat} {P : Program} {ops : Array Oper} {Q : Exit → Act → World → Prop} {w0 : World} {L : List Res} {m : Nat} {tm : Nat → Value} {d : List Deferred}
variable {t : Tmp} {ty : TypeId} {pos : String} {af : Array Edge} {g : Option (Nat × Bool)} {l rest : List Oper}
/-- 'append(x, y...)', y perhaps empty. -/
theorem ox_append0 (i : Nat) {α : Type} {cells : α → List Value} {xs ys : List α} {x y : Operand} {u e : TypeId} {A B : Option Addr} {c c' k q : Nat} {sz by' : Nat} {z : Value} (hu : P.underlying u = some (.slice e)) (hz : zeroOf P e = some z) (hb : bytesB P e z sz by' = true)
    (hL : L[i]? = some (rowR A c e sz k (encL cells xs))) (hx : opv m tm x = .slice A k c) (hy : opv m tm y = .slice B q c') (hR : RdL w0 L B q c' (encL cells ys)) (hn : (encL cells ys).length = q * sz) (h1 : ((encL cells ys).all (·.oneCell')) = true) (hg : (k + q) * by' ≤ 140737488355328)
    (hw : seesB ops m tm ⟨some t, .call ⟨.builtin .append, #[x, y], #[u, u]⟩, ty, pos, af, g⟩ = true)
    (h : ∀ A' c', OX r n P ops Q w0 (L.set i (rowR A' c' e sz (k + q) (encL cells (xs ++ ys)))) rest m (upd tm t (.slice A' (k + q) c')) d) :
    OX r n P ops Q w0 L (⟨some t, .call ⟨.builtin .append, #[x, y], #[u, u]⟩, ty, pos, af, g⟩ :: rest) m tm d := by
  rcases Nat.eq_zero_or_pos q with hq | hq
  · subst hq
    have hys : encL cells ys = [] := by
      have := hn
      rw [Nat.zero_mul] at this
      exact List.eq_nil_of_length_eq_zero this
    refine ox_step hw (by intro c h; cases h) fun W hW => ?_
    obtain ⟨inf, hinf, hzz⟩ : ∃ inf, P.info? e = some inf ∧ inf.zero = some z := by
      unfold zeroOf at hz
      cases hi : P.info? e with
      | none => rw [hi] at hz; cases hz
      | some inf => rw [hi] at hz; exact ⟨inf, rfl, hz⟩
    have hcap := (rowR_rd (hW.mem hL)).cap
    have hrun : (Builtin.append_ #[u, u] ty #[.slice A k c, .slice B 0 c']).run P W = .ok (.slice A k c) W := by
      cases A <;> cases B <;> simp [Builtin.append_, run_underlying hu, sizeOf, typeInfo, hinf, Builtin.lenOf, Builtin.firstCells, hcap, storeCells, loadCells, loadCellsFrom]
    refine ⟨_, W, _, ?_, ?_, h A c⟩
    · simp only [execOp, resolve, invoke, builtin]
      simp [hx, hy, hrun]
    · have e1 : encL cells (xs ++ ys) = encL cells xs := by rw [← encL_app, hys, List.append_nil]
      rw [e1, Nat.add_zero]
      have e2 : L.set i (rowR A c e sz k (encL cells xs)) = L := by
        obtain ⟨hi, he⟩ := List.getElem?_eq_some_iff.1 hL
        rw [← he, List.set_getElem_self]
      rw [e2]
      exact hW
  · exact ox_appendE i hu hz hb hL hx hy hq hR hn h1 hg hw h
end
/-! ### Maps of raw values -/
def rawR (v : Value) : Option (DataW Value × List MemPlace) := some (.held v, [])
structure KeyE (P : Program) (kt : TypeId) {κ : Type} (ek : κ → Value) (ok : κ → Bool) : Prop where
  keyed : Maps.Keyed P kt
  tot : ∀ x, ok x = true → ∃ l, keyOf P kt (ek x) = some l
  inj : ∀ x y, ek x = ek y → x = y
/-- Block b is a map that reads as the list of what was put into it, the last one first. -/
def mapV (P : Program) (kt : TypeId) {κ β : Type} [DecidableEq κ] (ek : κ → Value) (ok : κ → Bool) (ev : β → Value) (z : β) (b : Nat) (m : List (κ × β)) : Res where
  dom c := c = b
  holds W := ∃ D : DataW Value, W.ownsMap P kt rawR b m.length D ∧ Maps.IsMap D ∧ ∀ x l, ok x = true → keyOf P kt (ek x) = some l → D.atKey l (.held (ev z)) = .held (ev (mgetV z m x)) ∧ Maps.has D l = mhasV m x
  loc W W' h _ hh := by
    obtain ⟨D, ⟨es, clock, hb, h1⟩, h2⟩ := hh
    exact ⟨D, ⟨es, clock, (h b rfl).trans hb, h1⟩, h2⟩
  inb W h c hc := by
    obtain ⟨D, h1, _⟩ := h
    have hc' : c = b := hc
    rw [hc']
    exact h1.lt
theorem Cy.mapV {B : Nat} {P : Program} {kt : TypeId} {κ β : Type} [DecidableEq κ] {ek : κ → Value} {ok : κ → Bool} {ev : β → Value} {z : β} {b : Nat} {m : List (κ × β)} (h : b < B) : Cy B (mapV P kt ek ok ev z b m) := fun W c _ hc => by
  have hc' : c = b := hc
  exact .inl (by omega)
theorem mapV.later {P : Program} {kt : TypeId} {κ β : Type} [DecidableEq κ] {ek : κ → Value} {ok : κ → Bool} {ev : β → Value} {z : β} {b : Nat} {m : List (κ × β)} {W W' : World} (h : (mapV P kt ek ok ev z b m).holds W) (hb : Below W.heap.size W W') : (mapV P kt ek ok ev z b m).holds W' :=
  (mapV P kt ek ok ev z b m).loc W W' (fun c hc => by
    have hc' : c = b := hc
    obtain ⟨D, h1, _⟩ := h
    rw [hc']
    exact hb.block b h1.lt) hb.size h
def MpL (w0 : World) (L : List Res) (p : Res) : Prop := ∀ W, Ext w0 W L → p.holds W
theorem MpL.own {w0 : World} {L : List Res} {p : Res} (i : Nat) (h : L[i]? = some p) : MpL w0 L p := fun _ hW => hW.mem h
theorem MpL.arg {w0 : World} {L : List Res} {P : Program} {kt : TypeId} {κ β : Type} [DecidableEq κ] {ek : κ → Value} {ok : κ → Bool} {ev : β → Value} {z : β} {b : Nat} {m : List (κ × β)} (h : (mapV P kt ek ok ev z b m).holds w0) : MpL w0 L (mapV P kt ek ok ev z b m) := fun _ hW => mapV.later h hW.below
def kI (x : Int) : Value := .int .i64 x
def kB (x : Bool) : Value := .bool x
theorem keyE_int {P : Program} {kt : TypeId} (hk : P.underlying kt = some (.int .i64)) : KeyE P kt kI rngB :=
  ⟨Maps.int_keyed hk, fun x h => ⟨_, keyI hk h⟩, fun x y h => by cases h; rfl⟩
section
variable {r : Option Nat} {n : Nat} {P : Program} {ρ : Operand → Value} {w0 : World} {L : List Res}
variable {t : Option Tmp} {ty : TypeId} {pos : String} {af : Array Edge} {g : Option (Nat × Bool)}
variable {κ β : Type} [DecidableEq κ] {ek : κ → Value} {ok : κ → Bool} {ev : β → Value} {z : β}
/-- 'm[k]'. -/
theorem y_lookupV {kt et mt b : Nat} {m : List (κ × β)} {x y : Operand} {k : κ} (hM : MpL w0 L (mapV P kt ek ok ev z b m)) (K : KeyE P kt ek ok) (hm : P.underlying mt = some (.map kt et)) (hz : zeroOf P et = some (ev z))
    (hx : ρ x = .map (some b)) (hy : ρ y = ek k) (hr : ok k = true) :
    OpY r n P ⟨t, .lookup mt x y false, ty, pos, af, g⟩ ρ (fun W => Ext w0 W L) (fun W => Ext w0 W L) (ev (mgetV z m k)) :=
  opY_val (by intro c h; cases h) (fun W hW => by
    obtain ⟨D, h1, _, h3⟩ := hM W hW
    obtain ⟨l, hl⟩ := K.tot k hr
    obtain ⟨v, ps, hrun, hv⟩ := h1.lookup K.keyed hm (zero_run hz) (zd := .held (ev z)) (zp := []) rfl hl
    rw [(h3 k l hr hl).1] at hv
    have : v = ev (mgetV z m k) := by
      have := Option.some.inj hv
      simp only [Prod.mk.injEq, DataW.held.injEq] at this
      exact this.1
    subst this
    simp [execOp, hx, hy, hrun])
/-- 'm[k] = v'. -/
theorem y_updateV (i : Nat) {kt et mt b : Nat} {m : List (κ × β)} {x y u : Operand} {k : κ} {v : β} (hL : L[i]? = some (mapV P kt ek ok ev z b m)) (K : KeyE P kt ek ok) (hm : P.underlying mt = some (.map kt et))
    (hx : ρ x = .map (some b)) (hy : ρ y = ek k) (hv : ρ u = ev v) (hr : ok k = true ∧ m.length < 1000000) :
    OpY r n P ⟨t, .mapUpdate mt x y u, ty, pos, af, g⟩ ρ (fun W => Ext w0 W L) (fun W => Ext w0 W (L.set i (mapV P kt ek ok ev z b ((k, v) :: m)))) undef :=
  opY_skip (by intro c h; cases h) (fun W hW => by
    obtain ⟨D, h1, h2, h3⟩ := hW.mem hL
    obtain ⟨l, hl⟩ := K.tot k hr.1
    obtain ⟨W', hrun, hown, hg⟩ := h1.update K.keyed hm (by simp only [maxLen]; omega) (val := ev v) (d := .held (ev v)) (ps := []) hl rfl
    refine ⟨W', by simp [execOp, hx, hy, hv, hrun], ?_⟩
    refine hW.set hL (mapV P kt ek ok ev z b ((k, v) :: m)) ⟨_, hown, h2.put _ _, fun q l' hq hl' => ?_⟩ hg.os hg.tape hg.output hg.size (fun c hc hn => hg.block c hc (fun e => hn (by cases e; rfl))) (fun c hc => .inl hc)
    unfold mgetV mhasV
    by_cases e : k = q
    · subst e
      have e2 : l' = l := by rw [hl] at hl'; exact (Option.some.inj hl').symm
      subst e2
      rw [Maps.atKey_put_same h2 (K.keyed.key hl), Maps.has_put_same h2 (K.keyed.key hl)]
      simp
    · have hne : l' ≠ l := fun e2 => e (K.inj k q (K.keyed.inj hl (e2 ▸ hl')))
      rw [Maps.atKey_put_other hne, Maps.has_put_other hne, (h3 q l' hq hl').1, (h3 q l' hq hl').2]
      simp [e])
end
section
variable {r : Option Nat} {n : Nat} {P : Program} {ops : Array Oper} {Q : Exit → Act → World → Prop} {w0 : World} {L : List Res} {m : Nat} {tm : Nat → Value} {d : List Deferred}
variable {t : Tmp} {ty : TypeId} {pos : String} {af : Array Edge} {g : Option (Nat × Bool)} {l rest : List Oper}
theorem ox_makeMapV (kt : TypeId) {κ β : Type} [DecidableEq κ] (ek : κ → Value) (ok : κ → Bool) (ev : β → Value) (z : β) {mt : TypeId} (hw : seesB ops m tm ⟨some t, .makeMap mt none, ty, pos, af, g⟩ = true)
    (h : ∀ b, OX r n P ops Q w0 (L ++ [mapV P kt ek ok ev z b []]) rest m (upd tm t (.map (some b))) d) : OX r n P ops Q w0 L (⟨some t, .makeMap mt none, ty, pos, af, g⟩ :: rest) m tm d :=
  ox_step hw (by intro c h; cases h) fun W hW => by
    refine ⟨_, W.alloc (.map #[] 0), _, ?_, ?_, h W.heap.size⟩
    · simp [execOp, Instr.makeMap, newObj]
      rfl
    · have h7 : Ext w0 (W.alloc (.map #[] 0)) L := hW.keep (hW.below.alloc hW.size _) (by simp) (fun i p hp b hd => Below.heap_alloc W _ b (p.inb W (hW.all i p hp) b hd))
      refine h7.snoc (p := mapV P kt ek ok ev z W.heap.size []) ⟨_, World.ownsMap_made W P kt _, ⟨_, rfl⟩, fun x _ _ _ => ⟨rfl, rfl⟩⟩ (fun b hb => ?_) (fun i q hq b hb hb' => ?_)
      · have hb' : b = W.heap.size := hb
        have := hW.size
        omega
      · have hb'' : b = W.heap.size := hb'
        have := q.inb W (hW.all i q hq) _ hb
        omega
/-- Two ranges over functions in one function: its end. -/
theorem ex_M2 {fn : Func} {R : Ending → World → Prop} {e : Exit} {D D2 : Nat} (i j : Nat) (hij : i ≠ j) (hL : L[i]? = some (dfR D)) (hL2 : L[j]? = some (dfR D2)) (he : e = .ret ∨ e = .normal)
    (h : EX (bodyPost P fn R) e w0 ((L.set i (blk D (.deferred none))).set j (blk D2 (.deferred none))) m tm []) :
    EX (bodyPostM (Fw none) 8 P fn R) e w0 L m tm [⟨.collected D, #[]⟩, ⟨.collected D2, #[]⟩] := fun W hW => by
  have hd : W.heap[D]? = some (.deferred (some [])) := hW.mem hL
  have h2 : Ext w0 (W.putObj D (.deferred none)) (L.set i (blk D (.deferred none))) :=
    hW.set hL (blk D (.deferred none)) (World.putObj_heap_same (lt_of_block hd)) rfl rfl rfl (by simp [World.putObj]) (fun b hb hn => World.putObj_heap_other (fun e => hn e)) (fun b hb => .inl hb)
  have hL3 : (L.set i (blk D (.deferred none)))[j]? = some (dfR D2) := by rw [List.getElem?_set_ne hij]; exact hL2
  have hd2 : (W.putObj D (.deferred none)).heap[D2]? = some (.deferred (some [])) := h2.mem hL3
  have h3 : Ext w0 ((W.putObj D (.deferred none)).putObj D2 (.deferred none)) ((L.set i (blk D (.deferred none))).set j (blk D2 (.deferred none))) :=
    h2.set hL3 (blk D2 (.deferred none)) (World.putObj_heap_same (lt_of_block hd2)) rfl rfl rfl (by simp [World.putObj]) (fun b hb hn => World.putObj_heap_other (fun e => hn e)) (fun b hb => .inl hb)
  have h1 := h _ h3
  have key : LeavesInM (Fw none) 8 P fn (act m tm [⟨.collected D, #[]⟩, ⟨.collected D2, #[]⟩]).tmps R [⟨.collected D, #[]⟩, ⟨.collected D2, #[]⟩] .returning W :=
    ⟨(by intro h; cases h), .inl ⟨D, _, rfl, run_takeDeferred hd, ⟨(by intro h; cases h), .inl ⟨D2, _, rfl, run_takeDeferred hd2, by
      rcases he with rfl | rfl <;> exact h1.2⟩⟩⟩⟩
  rcases he with rfl | rfl <;> exact key
end

/-! ### A field of an element -/
theorem encL_setF {α : Type} [Inhabited α] {cells : α → List Value} {sz : Nat} (hc : ∀ x, (cells x).length = sz) {xs : List α} {v : α} {j q : Nat} {w : Value} (hj : j < xs.length) (hq : q < sz) (hv : cells v = (cells (xs.getD j default)).set q w) : (encL cells xs).set (j * sz + q) w = encL cells (xs.set j v) := by
  rw [← encL_setN hc v xs j hj, hv]
  have e0 := encL_setN hc (xs.getD j default) xs j hj
  have e1 : xs.set j (xs.getD j default) = xs := by
    rw [List.getD_eq_getElem?_getD, List.getElem?_eq_getElem hj]
    simp
  rw [e1] at e0
  conv => lhs; rw [← e0]
  have hl : ((encL cells xs).take (j * sz)).length = j * sz := by
    rw [List.length_take, encL_len hc rfl, Nat.min_eq_left (Nat.mul_le_mul_right _ (Nat.le_of_lt hj))]
  rw [List.append_assoc, List.set_append_right _ _ (by omega), hl, Nat.add_sub_cancel_left, List.set_append_left _ _ (by rw [hc]; exact hq), List.append_assoc]
section
variable {r : Option Nat} {n : Nat} {P : Program} {ρ : Operand → Value} {w0 : World} {L : List Res}
variable {t : Option Tmp} {ty : TypeId} {pos : String} {af : Array Edge} {g : Option (Nat × Bool)}
theorem y_storeRF (i : Nat) {α : Type} [Inhabited α] {cells : α → List Value} {sz : Nat} (hc : ∀ x, (cells x).length = sz) {xs : List α} (v : α) (q : Nat) (hq : q < sz) {x y : Operand} {u e : TypeId} {A : Option Addr} {k c : Nat} {j : Int} {w : Value} (hs : szB P u 1 = true) (hL : L[i]? = some (rowR A c e sz k (encL cells xs))) (h0 : 0 ≤ j) (h1 : j < (xs.length : Int)) (hx : ρ x = slA A (j.toNat * sz + q)) (hv : cells v = (cells (rdL xs j)).set q w) (hy : ρ y = w) (ho : w.oneCell' = true) :
    OpY r n P ⟨t, .store u x y, ty, pos, af, g⟩ ρ (fun W => Ext w0 W L) (fun W => Ext w0 W (L.set i (rowR A c e sz k (encL cells (xs.set j.toNat v))))) undef :=
  opY_skip (by intro c h; cases h) (fun W hW => by
    have hown : W.ownsRow 0 e sz (.slice A k c) k (encL cells xs) := hW.mem hL
    have hk : xs.length = k := by
      have h5 := hown.1
      rw [encL_len hc rfl] at h5
      exact Nat.eq_of_mul_eq_mul_right (by omega) h5
    rcases hown.2 with ⟨_, h3⟩ | ⟨g', cap, cur, hv', _, hg, h3, h4, h5, h6⟩
    · omega
    · simp only [Value.slice.injEq] at hv'
      obtain ⟨rfl, _, rfl⟩ := hv'
      have hjk : j.toNat < k := by omega
      have hjs : j.toNat * sz + sz ≤ k * sz := by
        have := Nat.mul_le_mul_right sz (show j.toNat + 1 ≤ k by omega)
        rw [Nat.add_mul, Nat.one_mul] at this
        exact this
      have hcs : k * sz ≤ cur.size := by
        have := Nat.mul_le_mul_right sz h3
        omega
      have hcur : j.toNat * sz + q < cur.size := by omega
      have hx' : ρ x = .pointer (some ⟨g', j.toNat * sz + q, none⟩) := by
        rw [hx]
        simp [slA]
      have hcw : w.cells = #[w] := by cases w <;> first | rfl | cases ho
      have hst := run_storeCells_at (P := P) g' (j.toNat * sz + q) e w.cells.toList 0 cur W hg (by rw [hcw]; simp; omega) (by rw [hcw]; simpa using ho)
      simp only [Nat.add_zero] at hst
      refine ⟨_, by
        simp only [execOp, hx', hy, Sem.run_bind]
        have : (Instr.storeAt u (.pointer (some ⟨g', j.toNat * sz + q, none⟩)) w).run P W = .ok () (W.setRow g' (cur.toList.take (j.toNat * sz + q) ++ w.cells.toList ++ cur.toList.drop (j.toNat * sz + q + w.cells.toList.length)).toArray) := by
          simp [Instr.storeAt, Instr.sureAddr, storeVar, run_sizeOf_sz (show szB P u w.cells.size = true by rw [hcw]; exact hs), hst]
        rw [this]
        rfl, ?_⟩
      have e1 : cur.toList.take (j.toNat * sz + q) ++ w.cells.toList ++ cur.toList.drop (j.toNat * sz + q + w.cells.toList.length) = cur.toList.set (j.toNat * sz + q) w := by
        rw [hcw]
        simp only [List.length_cons, List.length_nil]
        rw [List.set_eq_take_append_cons_drop, if_pos (by simpa using hcur)]
        simp
      rw [e1]
      refine hW.set hL (rowR (some ⟨g', 0, none⟩) c e sz k (encL cells (xs.set j.toNat v))) ?_ rfl rfl rfl (by simp [World.setRow]) (fun b' _ hn => ?_) (fun b' hb' => .inl hb')
      · refine ⟨?_, .inr ⟨g', c, (cur.toList.set (j.toNat * sz + q) w).toArray, rfl, Nat.zero_le _, setRow_heap W g' _ _ e _ hg, h3, h4, by simpa using h5, ?_⟩⟩
        · rw [encL_len hc rfl]; simp [hk]
        · have h6' : cur.toList.take (k * sz) = encL cells xs := h6
          show (cur.toList.set (j.toNat * sz + q) w).take (k * sz) = _
          rw [← encL_setF hc (w := w) (q := q) (by omega) hq hv, ← h6', List.take_set]
      · show (W.heap.modify g' _)[b']? = _
        rw [Array.getElem?_modify, if_neg (fun e' => hn ⟨_, rfl, e'⟩)])
theorem zeroCells_one {zs : Array Value} (h : (zs.toList.all (·.oneCell')) = true) (hp : 0 < zs.size) (n : Nat) : ∀ u ∈ (Builtin.zeroCells zs n).toList, u.oneCell' = true := by
  intro u hu
  simp only [Builtin.zeroCells, Array.toList_map, List.mem_map] at hu
  obtain ⟨j, _, rfl⟩ := hu
  have hlt : j % zs.size < zs.size := Nat.mod_lt _ hp
  rw [getElem!_pos zs _ hlt]
  exact List.all_eq_true.1 h _ (by simp)
/-- 'clear(x[lo:])', of which the head alone is told behind it. -/
theorem y_clearH (i : Nat) {α : Type} {cells : α → List Value} {xs : List α} {x : Operand} {u e : TypeId} {A : Option Addr} {k c sz : Nat} {lo : Int} {z : Value} (hu : P.underlying u = some (.slice e)) (hz : zeroOf P e = some z) (hzs : z.cells.size = sz) (hpos : 0 < sz) (hz1 : (z.cells.toList.all (·.oneCell')) = true)
    (hc : ∀ x, (cells x).length = sz) (hL : L[i]? = some (rowR A c e sz k (encL cells xs))) (h0 : 0 ≤ lo) (h1 : lo ≤ k)
    (hx : ρ x = .slice (if c = lo.toNat then A else A.map (fun x => x.add (lo.toNat * sz))) (k - lo.toNat) (c - lo.toNat)) :
    OpY r n P ⟨none, .call ⟨.builtin .clear, #[x], #[u]⟩, ty, pos, af, g⟩ ρ (fun W => Ext w0 W L) (fun W => Ext w0 W (L.set i (rowR A c e sz lo.toNat (encL cells (xs.take lo.toNat))))) (.tuple #[]) := fun W hW => by
  have hrow : (rowR A c e sz k (encL cells xs)).holds W := hW.mem hL
  have hcap := (rowR_rd hrow).cap
  have hlo : lo.toNat ≤ k := by omega
  have hA0 : A = none → lo.toNat = 0 := by
    intro hA
    subst hA
    rcases hrow.2 with ⟨h2, h3⟩ | ⟨g, cap, cur, hv, _⟩
    · omega
    · simp at hv
  have hhead : ∀ W', (rowR A c e sz k (encL cells xs)).holds W' → (rowR A c e sz lo.toNat (encL cells (xs.take lo.toNat))).holds W' := fun W' h' => by
    have := rowR_head h' hlo hA0
    rw [encL_take hc] at this
    exact this
  have hdom : ∀ b, (rowR A c e sz lo.toNat (encL cells (xs.take lo.toNat))).dom b → (rowR A c e sz k (encL cells xs)).dom b := fun b hb => hb
  suffices hs : ∃ W', (Builtin.clear_ #[u] ty #[.slice (if c = lo.toNat then A else A.map (fun x => x.add (lo.toNat * sz))) (k - lo.toNat) (c - lo.toNat)]).run P W = .ok (.tuple #[]) W' ∧ Ext w0 W' (L.set i (rowR A c e sz lo.toNat (encL cells (xs.take lo.toNat)))) by
    obtain ⟨W', hrun, hE⟩ := hs
    have e1 : (execOp ρ ⟨none, .call ⟨.builtin .clear, #[x], #[u]⟩, ty, pos, af, g⟩).run P W = .ok (.value (.tuple #[])) W' := by
      simp only [execOp, resolve, invoke, builtin]
      simp [hx, hrun]
    rw [semAt_exec (by intro c h; cases h), e1]
    exact ⟨rfl, hE⟩
  by_cases hk : k - lo.toNat = 0
  · refine ⟨W, ?_, hW.tell i hL (hhead W) hdom⟩
    rw [hk]
    have hh : ∀ (B : Option Addr) (q : Nat), (Builtin.clear_ #[u] ty #[.slice B 0 q]).run P W = .ok (.tuple #[]) W := fun B q => by
      cases B <;> simp [Builtin.clear_, run_underlying hu]
    exact hh _ _
  · have hcl : ¬ c = lo.toNat := by omega
    rw [if_neg hcl]
    obtain ⟨h1', h2'⟩ := hrow
    rcases h2' with ⟨h2, h3⟩ | ⟨g', cap, cur, hv', _, hg, h3, h4, h5, h6⟩
    · omega
    · simp only [Value.slice.injEq] at hv'
      obtain ⟨rfl, _, rfl⟩ := hv'
      obtain ⟨zn, hzn⟩ : ∃ zn, k - lo.toNat = zn + 1 := ⟨k - lo.toNat - 1, by omega⟩
      have hzl : (Builtin.zeroCells z.cells (k - lo.toNat)).toList.length = (k - lo.toNat) * sz := by simp [Builtin.zeroCells, hzs]
      have hbd : lo.toNat * sz + (k - lo.toNat) * sz ≤ cur.size := by
        rw [← Nat.add_mul, Nat.add_sub_cancel' hlo, h5]
        exact Nat.mul_le_mul_right _ h3
      have hst := run_storeCells_at (P := P) g' (lo.toNat * sz) e (Builtin.zeroCells z.cells (k - lo.toNat)).toList 0 cur W hg (by rw [hzl]; omega) (zeroCells_one hz1 (by omega) _)
      simp only [Nat.add_zero] at hst
      have hzr := zero_run (P := P) (W := W) hz
      have hadd : Option.map (fun x => x.add (lo.toNat * sz)) (some (⟨g', 0, none⟩ : Addr)) = some ⟨g', lo.toNat * sz, none⟩ := by
        simp only [Option.map_some, Addr.add_lit, Nat.zero_add]
      refine ⟨W.setRow g' (cur.toList.take (lo.toNat * sz) ++ (Builtin.zeroCells z.cells (k - lo.toNat)).toList ++ cur.toList.drop (lo.toNat * sz + (Builtin.zeroCells z.cells (k - lo.toNat)).toList.length)).toArray, ?_, ?_⟩
      · rw [hadd]
        rw [hzn] at hst ⊢
        simp [Builtin.clear_, run_underlying hu, hzr, hst]
      · have hlen : (cur.toList.take (lo.toNat * sz) ++ (Builtin.zeroCells z.cells (k - lo.toNat)).toList ++ cur.toList.drop (lo.toNat * sz + (Builtin.zeroCells z.cells (k - lo.toNat)).toList.length)).length = cur.size := by
          rw [List.length_append, List.length_append, List.length_take, List.length_drop, hzl, Array.length_toList]
          omega
        refine hW.set hL _ ?_ rfl rfl rfl (by simp [World.setRow]) (fun b' _ hn => ?_) (fun b' hb' => .inl hb')
        · refine ⟨?_, .inr ⟨g', c, _, rfl, Nat.zero_le _, setRow_heap W g' _ _ e _ hg, by omega, h4, by simp only [List.size_toArray]; rw [hlen]; exact h5, ?_⟩⟩
          · rw [← encL_take hc, List.length_take, h1']
            exact Nat.min_eq_left (Nat.mul_le_mul_right _ hlo)
          · show List.take (lo.toNat * sz) (cur.toList.take (lo.toNat * sz) ++ (Builtin.zeroCells z.cells (k - lo.toNat)).toList ++ cur.toList.drop _) = _
            rw [List.append_assoc, List.take_append_of_le_length (by rw [List.length_take, Array.length_toList]; omega), List.take_take, Nat.min_self, ← encL_take hc, ← h6, List.take_take, Nat.min_eq_left (Nat.mul_le_mul_right _ hlo)]
        · show (W.heap.modify g' _)[b']? = _
          rw [Array.getElem?_modify, if_neg (fun e' => hn ⟨_, rfl, e'⟩)]
/-- A cut below the capacity. -/
theorem y_cutHc {A : Option Addr} {k c : Nat} {x b : Operand} {u e : TypeId} {sz : Nat} {q : IntKind} {hi : Int} (hs : slOf P u = some (e, sz)) (h0 : 0 ≤ hi) (h2 : ∀ W, Ext w0 W L → hi.toNat ≤ c) (hx : ρ x = .slice A k c) (hb : ρ b = .int q hi) :
    OpY r n P ⟨t, .slice u x none (some b) none, ty, pos, af, g⟩ ρ (fun W => Ext w0 W L) (fun W => Ext w0 W L) (.slice A hi.toNat c) :=
  opY_val (by intro c h; cases h) (fun W hW => by
    obtain ⟨hu', hsz⟩ := slOf_inv hs
    have h3 : hi ≤ (c : Int) := by have := h2 W hW; omega
    simp only [execOp, hx, hb, Option.map_some, Option.map_none, Sem.run_bind, run_sliceAt_slice W u _ _ _ _ hu', run_slice_h W u A k c hu' q hi h0 h3, hsz, Result.andThen_ok, sliced]
    have e1 : (if c = 0 then A else Option.map (fun x => x.add (0 * sz)) A) = A := by
      split
      · rfl
      · cases A <;> simp [Addr.add]
    rw [e1]
    rfl)
end
theorem rd_none {W : World} {n c sz : Nat} {α : Type} {cells : α → List Value} {xs : List α} (h : Rd W none n c (encL cells xs)) (hc : ∀ x, (cells x).length = sz) (hp : 0 < sz) : xs = [] := by
  cases xs with
  | nil => rfl
  | cons x xs =>
    have hl : 0 < (encL cells (x :: xs)).length := by rw [encL_len hc rfl]; exact Nat.mul_pos (Nat.succ_pos _) hp
    obtain ⟨b, o, e, _⟩ := h.cell 0 (encL cells (x :: xs))[0] (by simp [hl])
    cases e
section
variable {r : Option Nat} {n : Nat} {P : Program} {ops : Array Oper} {Q : Exit → Act → World → Prop} {w0 : World} {L : List Res} {m : Nat} {tm : Nat → Value} {d : List Deferred}
variable {t : Tmp} {ty : TypeId} {pos : String} {af : Array Edge} {g : Option (Nat × Bool)} {l rest : List Oper}
/-- An empty literal slice. -/
theorem ox_buildSlice0 {α : Type} (cells : α → List Value) {u e : TypeId} {z : Value} {sz by' : Nat} (hu : P.underlying u = some (.slice e)) (hz : zeroOf P e = some z) (hb : bytesB P e z sz by' = true)
    (hw : seesB ops m tm ⟨some t, .buildSlice u 0 #[], ty, pos, af, g⟩ = true)
    (h : ∀ b, OX r n P ops Q w0 (L ++ [rowR (some ⟨b, 0, none⟩) 0 e sz 0 (encL cells [])]) rest m (upd tm t (.slice (some ⟨b, 0, none⟩) 0 0)) d) :
    OX r n P ops Q w0 L (⟨some t, .buildSlice u 0 #[], ty, pos, af, g⟩ :: rest) m tm d :=
  ox_step hw (by intro c h; cases h) fun W hW => by
    obtain ⟨inf, hinf, hzz⟩ : ∃ inf, P.info? e = some inf ∧ inf.zero = some z := by
      unfold zeroOf at hz
      cases hi : P.info? e with
      | none => rw [hi] at hz; cases hz
      | some inf => rw [hi] at hz; exact ⟨inf, rfl, hz⟩
    have hu1 : (underlying u).run P W = .ok (.slice e) W := by simp [underlying, hu]
    have hsz : (Go.sizeOf e).run P W = .ok inf.size W := by simp [Go.sizeOf, typeInfo, hinf]
    have hb : (Instr.buildSlice u 0 #[]).run P W = .ok (.slice (some ⟨W.heap.size, 0, none⟩) 0 0) (W.alloc (.cells #[] e)) := by
      simp [Instr.buildSlice, hu1, Result.andThen_ok, hsz, Instr.fill, newRow]
      rw [show (Array.range 0) = #[] by simp [Array.range]]
      simp
    refine ⟨_, W.alloc (.cells #[] e), _, ?_, ?_, h W.heap.size⟩
    · simp only [execOp, Sem.run_bind, List.map_toArray, List.map_nil, hb]
      rfl
    · have hk : (rowR (some ⟨W.heap.size, 0, none⟩) 0 e sz 0 (encL cells [])).holds (W.alloc (.cells #[] e)) := by
        have := World.ownsRow_lit (base := 0) (e := e) (size := sz) W #[] 0 (Nat.zero_le _) (Nat.zero_le _) (by simp)
        exact this
      have h7 : Ext w0 (W.alloc (.cells #[] e)) L := hW.keep (hW.below.alloc hW.size _) (by simp) (fun i p hp b hd => Below.heap_alloc W _ b (p.inb W (hW.all i p hp) b hd))
      refine h7.snoc hk (fun b hb => ?_) (fun i q hq b hb hb' => ?_)
      · obtain ⟨a, ha, rfl⟩ := hb
        cases ha
        exact hW.size
      · obtain ⟨a, ha, rfl⟩ := hb'
        cases ha
        have := q.inb W (hW.all i q hq) _ hb
        exact absurd this (Nat.lt_irrefl _)
end

section
variable {r : Option Nat} {n : Nat} {P : Program} {ρ : Operand → Value} {C : World → Prop}
variable {t : Option Tmp} {ty : TypeId} {pos : String} {af : Array Edge} {g : Option (Nat × Bool)}
theorem y_convQ {x : Operand} {u v : TypeId} {q q' : IntKind} {a a' : Int} (hu : P.underlying u = some (.int q)) (hv : P.underlying v = some (.int q')) (h : q'.wrap a = a') (hx : ρ x = .int q a) : OpY r n P ⟨t, .convert u v x, ty, pos, af, g⟩ ρ C C (.int q' a') :=
  opY_val (by intro c h; cases h) (fun W _ => by
    have h1 : (convert u v (.int q a)).run P W = .ok (.int q' a') W := by
      simp [convert, underlying, hu, hv, Conv.intToInt, h]
    simp [execOp, hx, h1])
theorem y_indexStr {x ix : Operand} {u : TypeId} {s : ByteArray} {k : IntKind} {i : Int} {b : UInt8} (hu : P.underlying u = some .string) (h0 : 0 ≤ i) (hb : s[i.toNat]? = some b) (hx : ρ x = .string s) (hi : ρ ix = .int k i) : OpY r n P ⟨t, .index u x ix, ty, pos, af, g⟩ ρ C C (.int .u8 b.toNat) :=
  opY_val (by intro c h; cases h) (fun W _ => by
    simp [execOp, hx, hi, Instr.index, asIntOf, underlying, hu, h0, hb])
end

def fldT (P : Program) (s : TypeId) (f : Nat) : Option (TypeId × Nat) := match P.underlying s with
  | some (.struct fs) => (fs[f]?).map fun x => (x.type, x.offset)
  | _ => none
section
variable {r : Option Nat} {n : Nat} {P : Program} {ρ : Operand → Value} {C : World → Prop}
variable {t : Option Tmp} {ty : TypeId} {pos : String} {af : Array Edge} {g : Option (Nat × Bool)}
theorem fldT_inv {s f off : Nat} {ft : TypeId} (h : fldT P s f = some (ft, off)) : ∃ fs fd, P.underlying s = some (.struct fs) ∧ fs[f]? = some fd ∧ fd.type = ft ∧ fd.offset = off := by
  unfold fldT at h
  split at h
  · rename_i fs hu
    cases hf : fs[f]? with
    | none => rw [hf] at h; cases h
    | some fd =>
      rw [hf] at h
      simp only [Option.map_some, Option.some.injEq, Prod.mk.injEq] at h
      exact ⟨fs, fd, hu, hf, h.1, h.2⟩
  · cases h
theorem y_field1 (cs : List Value) {v : Value} {x : Operand} {s f off : Nat} {ft : TypeId} (hf : fldT P s f = some (ft, off)) (hs : scB P ft = true) (hx : ρ x = .agg cs.toArray) (hv : cs[off]? = some v) : OpY r n P ⟨t, .field s x f, ty, pos, af, g⟩ ρ C C v := by
  obtain ⟨fs, fd, hu, h1, rfl, rfl⟩ := fldT_inv hf
  exact opY_val (by intro c h; cases h) (fun W _ => by
    simp [execOp, hx, Instr.field, underlying, hu, h1, asAgg, part, run_sizeOf_sc hs, run_isAgg_sc hs, hv])
theorem y_fieldN (cs vs : List Value) {x : Operand} {s f off : Nat} {ft : TypeId} (hf : fldT P s f = some (ft, off)) (hs : aggB P ft vs.length = true) (hx : ρ x = .agg cs.toArray) (hv : (cs.drop off).take vs.length = vs) : OpY r n P ⟨t, .field s x f, ty, pos, af, g⟩ ρ C C (.agg vs.toArray) := by
  obtain ⟨fs, fd, hu, h1, rfl, rfl⟩ := fldT_inv hf
  exact opY_val (by intro c h; cases h) (fun W _ => by
    simp [execOp, hx, Instr.field, underlying, hu, h1, asAgg, part, run_sizeOf_agg hs, run_isAgg_agg hs, hv])
end

section
variable {P : Program} {w0 : World} {L : List Res} {m : Nat} {tm : Nat → Value}
theorem ex_res4 {fn : Func} {x y z x4 : ResultVar} {R : Ending → World → Prop} {v u s v4 : Value} {e : Exit} (he : e = .ret ∨ e = .normal) (hr : fn.results = #[x, y, z, x4]) (hx : resV P m tm w0 L x v) (hy : resV P m tm w0 L y u) (hz : resV P m tm w0 L z s) (hz4 : resV P m tm w0 L x4 v4) (h : ∀ W, Ext w0 W L → R (.returned (.tuple #[v, u, s, v4])) W) : EX (bodyPost P fn R) e w0 L m tm [] := fun W hW => by
  have h1 := hx W hW
  have h2 := hy W hW
  have h3 := hz W hW
  have h4 := hz4 W hW
  have : ∃ v, (results fn (act m tm []).tmps).run P W = .ok v W ∧ R (.returned v) W := by
    refine ⟨.tuple #[v, u, s, v4], ?_, h W hW⟩
    rw [results_rv, hr, Array.mapM_eq_mapM_toList]
    simp only [List.mapM_cons, List.mapM_nil, Sem.run_bind, Sem.run_map, h1, h2, h3, h4, Result.andThen_ok, Sem.run_pure]
    rfl
  rcases he with rfl | rfl <;> exact ⟨rfl, this⟩
end

section
variable {r : Option Nat} {n : Nat} {P : Program} {ρ : Operand → Value} {C : World → Prop} {w0 : World} {L : List Res}
variable {t : Option Tmp} {ty : TypeId} {pos : String} {af : Array Edge} {g : Option (Nat × Bool)}
theorem y_nilCheck {x : Operand} {b o : Nat} (hx : ρ x = .pointer (some ⟨b, o, none⟩)) : OpY r n P ⟨t, .nilCheck x, ty, pos, af, g⟩ ρ C C (.pointer (some ⟨b, o, none⟩)) :=
  opY_val (by intro c h; cases h) (fun W _ => by simp [execOp, hx])
/-- A slice that the rest of the world holds. -/
theorem RdL.under {R : Res} {A : Option Addr} {k c : Nat} {cs : List Value} (h : ∀ W2, Below w0.heap.size w0 W2 → R.holds W2 → Rd W2 A k c cs) : RdL w0 (R :: L) A k c cs := fun W hW => h W hW.below (hW.mem (i := 0) rfl)
end

end Go.Proofs.Ytndajeiecdmhnaa
