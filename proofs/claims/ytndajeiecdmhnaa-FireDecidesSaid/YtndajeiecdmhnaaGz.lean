/- Words for walks: loops over iterators whose captured facts go along; loops within rounds. -/
import Derived.Test.YtndajeiecdmhnaaGn
import Derived.Test.YtndajeiecdmhnaaGw
import Derived.RangeFuncNested
namespace Go.Proofs.Ytndajeiecdmhnaa
open Go.RowKit (Below)

/-- **What an iterator's function promises**, where H holds along. -/
def SeqH (P : Program) (g : Nat) (caps : List Value) {α : Type} (enc : α → List Value) (H : World → Prop) (xs : List α) : Prop :=
  ∀ (l : Nat) (J : Nat → World → Prop) (Jx : World → Prop) (W : World), AbidesFrom W.heap.size J → AbidesFrom W.heap.size (fun (_ : Unit) => Jx) → (∀ i W1, J i W1 → H W1) →
    (∀ i x W1, xs[i]? = some x → J i W1 → YieldAt (Fw none) 6 P l (enc x).toArray W1 fun e W' => (e = .returned (.bool true) ∧ J (i + 1) W') ∨ (e = .returned (.bool false) ∧ Jx W')) →
    J 0 W → CallsIn (Fw none) 7 P g (#[.func (.yield l) #[] #[]] ++ caps.toArray) W fun e W' => (∃ v, e = .returned v) ∧ (J xs.length W' ∨ Jx W')

section
variable {r : Option Nat} {n : Nat} {P : Program} {Q : Exit → Act → World → Prop} {w0 : World} {L : List Res} {m : Nat} {tm : Nat → Value} {d : List Deferred}
/-- **'for x := range seq { .. }'**. -/
theorem cx_rangeH {α S T : Type} {enc : α → Value} {bodyf : S → α → Option (S ⊕ T)} {g : Operand} {p : Tmp} {assign body : Code} {gf : Nat} {caps : List Value} {H : World → Prop} {xs : List α} {s0 : S} {st : S ⊕ T}
    (I : S → List Res → Prop) (J : T → Exit → List Res → Prop) (hl : foldO bodyf xs s0 = some st) (hg : opv m tm g = .func (.func gf) #[] caps.toArray) (hgo : goes P gf = true)
    (hseq : SeqH P gf caps (fun x => [enc x]) H xs) (hH : ∀ W s L', I s L' → Ext w0 W L' → H W) (h0 : I s0 L)
    (hcyI : ∀ W, Ext w0 W L → ∀ s L', I s L' → CyL W.heap.size L') (hcyJ : ∀ W, Ext w0 W L → ∀ t e L', J t e L' → CyL W.heap.size L')
    (hJe : ∀ t e L', J t e L' → e = .ret ∨ ∃ id, e = .exit id)
    (round : ∀ D l rec s x L' st', rec.state = .ready → I s L' → bodyf s x = some st' → CX (some l) 6 P assign (asgQ 6 P l body (rgQ w0 D l rec I J st')) w0 (L' ++ [dfR D, lpR l rec]) m (upd tm p (enc x)) [])
    (done : ∀ D s L', st = .inl s → I s L' → EX Q .normal w0 (L' ++ [dfR D]) m tm (⟨.collected D, #[]⟩ :: d))
    (stop : ∀ D t e L', st = .inr t → J t e L' → EX Q e w0 (L' ++ [dfR D]) m tm (⟨.collected D, #[]⟩ :: d)) : CX none 8 P (.rangeFunc g #[p] assign body) Q w0 L m tm d := fun W hW => by
  refine wpIn_rangeFunc ?_
  intro fn hfn
  obtain ⟨rec0, hrec0⟩ : ∃ rec0 : Loop, rec0 = { state := .ready, pending := none, fn, tmps := (act m tm d).tmps, params := #[p], assign, body, defers := W.heap.size } := ⟨_, rfl⟩
  have hW1 : Ext w0 ((W.alloc (.deferred (some []))).alloc (.loop rec0)) (L ++ [dfR W.heap.size, lpR (W.heap.size + 1) rec0]) := by
    have h1 := (hW.alloc (.deferred (some []))).alloc (.loop rec0)
    rw [World.size_alloc, List.append_assoc] at h1
    exact h1
  have hab : ∀ (row : Option Nat) (A : World), (∀ x, row = some x → ((W.alloc (.deferred (some []))).alloc (.loop rec0)).heap.size ≤ x ∧ ∃ o : Obj, A.heap[x]? = some o ∧ o.isWalk = true) → ∀ x, row = some x → w0.heap.size ≤ x ∧ W.heap.size ≤ x ∧ ∃ o : Obj, A.heap[x]? = some o ∧ o.isWalk = true := fun row A hr x hx => by
    obtain ⟨h1, h2⟩ := hr x hx
    have := hW.size
    simp at h1
    exact ⟨by omega, by omega, h2⟩
  refine ⟨W.heap.size + 1, [{ target := .collected W.heap.size, args := #[] }], ((W.alloc (.deferred (some []))).alloc (.loop rec0)), { target := .fn (.func gf) caps.toArray, args := #[.func (.yield (W.heap.size + 1)) #[] #[]] }, ((W.alloc (.deferred (some []))).alloc (.loop rec0)), gf,
    #[.func (.yield (W.heap.size + 1)) #[] #[]] ++ caps.toArray, ((W.alloc (.deferred (some []))).alloc (.loop rec0)), (by rw [hrec0]; exact run_enterLoop_outer _ _ _ _ _), ?_, fun _ _ => trivial, ?_, fun hd => (by cases hd), ?_⟩
  · have hg' : (act m tm d).eval g = .func (.func gf) #[] caps.toArray := by rw [eval_act]; exact hg
    simp only [resolve, hg']
    simp [go_sem]
  · have := run_goes hgo (#[.func (.yield (W.heap.size + 1)) #[] #[]] ++ caps.toArray) ((W.alloc (.deferred (some []))).alloc (.loop rec0))
    simp only [invoke]
    exact this
  · generalize hl0 : W.heap.size + 1 = l
    rw [hl0] at hW1
    generalize hD : W.heap.size = D at *
    have hseq1 := hseq l
      (fun i W' => ∃ s L', foldO bodyf (xs.take i) s0 = some (.inl s) ∧ I s L' ∧ Ext w0 W' (L' ++ [dfR D, lpR l rec0]))
      (fun W' => ∃ t e c L', st = .inr t ∧ J t e L' ∧ ((e = .ret ∧ c = Code.ret) ∨ ∃ id, e = .exit id ∧ c = Code.exit id) ∧ Ext w0 W' (L' ++ [dfR D, lpR l { rec0 with state := .done, pending := some c }]))
      ((W.alloc (.deferred (some []))).alloc (.loop rec0)) 
      (fun i A B row hs hg' hr => by
        obtain ⟨s, L', h1, h2, h3⟩ := hs
        refine ⟨s, L', h1, h2, h3.abides (B := D) (fun q hq => ?_) hg' (hab row A hr)⟩
        rcases List.mem_append.1 hq with hq | hq
        · have := hcyI W hW s L' h2 q hq; rw [hD] at this; exact this
        · rcases List.mem_cons.1 hq with rfl | hq
          · exact Cy.blk rfl
          · rw [List.mem_singleton.1 hq]; exact Cy.blk rfl)
      (fun i A B row hs hg' hr => by
        obtain ⟨t, e, c, L', h1, h2, h5, h3⟩ := hs
        refine ⟨t, e, c, L', h1, h2, h5, h3.abides (B := D) (fun q hq => ?_) hg' (hab row A hr)⟩
        rcases List.mem_append.1 hq with hq | hq
        · have := hcyJ W hW t e L' h2 q hq; rw [hD] at this; exact this
        · rcases List.mem_cons.1 hq with rfl | hq
          · exact Cy.blk rfl
          · rw [List.mem_singleton.1 hq]; exact Cy.blk rfl)
      (fun i A hs => by
        obtain ⟨s, L', h1, h2, h3⟩ := hs
        have h4 := h3.take L'.length
        rw [List.take_left] at h4
        exact hH A s L' h2 h4)
      ?_ ⟨s0, L, rfl, h0, hW1⟩
    · refine hseq1.mono ?_
      rintro e W2 ⟨⟨v, rfl⟩, h2⟩
      rcases h2 with ⟨s, L', h3, h4, h5⟩ | ⟨t, e, c, L', h3, h4, h6, h5⟩
      · rw [List.take_length, hl] at h3
        have hl2 : W2.heap[l]? = some (.loop rec0) := h5.mem getElem?_app1
        refine ⟨rec0.pending, _, run_endLoop hl2 (by rw [hrec0]; simp), ?_⟩
        have hpd : rec0.pending = none := by rw [hrec0]
        rw [hpd]
        show Q .normal _ _
        have h7 := (h5.putLoop (rec' := { rec0 with state := .exhausted, pending := none })).take (L'.length + 1)
        have e7 : (L' ++ [dfR D, lpR l { rec0 with state := .exhausted, pending := none }]).take (L'.length + 1) = L' ++ [dfR D] := by
          rw [List.take_append]; simp [List.take_of_length_le]
        rw [e7] at h7
        exact done D s L' (Option.some.inj h3) h4 _ h7
      · have hl2 : W2.heap[l]? = some (.loop { rec0 with state := .done, pending := some c }) := h5.mem getElem?_app1
        refine ⟨some c, _, run_endLoop hl2 (by simp), ?_⟩
        have h7 := (h5.putLoop (rec' := { rec0 with state := .exhausted, pending := some c })).take (L'.length + 1)
        have e7 : (L' ++ [dfR D, lpR l { rec0 with state := .exhausted, pending := some c }]).take (L'.length + 1) = L' ++ [dfR D] := by
          rw [List.take_append]; simp [List.take_of_length_le]
        rw [e7] at h7
        have h8 := stop D t e L' h3 h4 _ h7
        rcases h6 with ⟨rfl, rfl⟩ | ⟨id, rfl, rfl⟩
        · exact wpIn_ret h8
        · exact wpIn_exit h8
    · rintro i x W1 hx ⟨s, L', h1, h2, h3⟩
      obtain ⟨st', hf, hft, hst⟩ := foldO_step hl h1 hx
      have hl1 : W1.heap[l]? = some (.loop rec0) := h3.mem getElem?_app1
      have hy := run_yield (P := P) (args := #[enc x]) hl1 (by rw [hrec0]; rfl)
      have et : ((#[p] : Array Tmp).zip #[enc x]).foldl (fun tmps (t, a) => tmps.setIfInBounds t a) (act m tm d).tmps = (act m (upd tm p (enc x)) []).tmps := by
        have h9 : (act m tm []).put (some p) (enc x) = act m (upd tm p (enc x)) [] := put_act m tm [] (some p) (enc x)
        rw [← h9]
        simp [Act.put]
        rfl
      refine ⟨fn, _, assign, body, (by rw [hy, hrec0]), roundIn_of_wpIn (F := Fw none) (n := 6) trivial ?_⟩
      have hr := round D l rec0 s x L' st' (by rw [hrec0]) h2 hf W1 h3
      have ea : (act m (upd tm p (enc x)) []) = { tmps := ((#[p] : Array Tmp).zip #[enc x]).foldl (fun tmps (t, a) => tmps.setIfInBounds t a) (act m tm d).tmps, defers := [] } := by
        rw [et]; rfl
      rw [ea] at hr
      refine wpIn_mono (F := (Fw none).inRound l) hr ?_
      intro e a2 W2 h4
      cases e with
      | normal =>
        obtain ⟨w₂, hb, hbody⟩ := h4
        refine ⟨w₂, hb, wpIn_mono hbody ?_⟩
        intro e a3 W3 h5
        cases st' with
        | inl s' =>
          obtain ⟨rfl, L'', h6, h7⟩ := h5
          have hl3 : W3.heap[l]? = some (.loop { rec0 with state := .busy }) := h7.mem getElem?_app1
          refine ⟨_, _, run_endRound none hl3, .inl ⟨rfl, ?_⟩⟩
          refine ⟨s', L'', hft, h6, ?_⟩
          have := h7.putLoop (rec' := rec0)
          rw [hrec0] at this ⊢
          exact this
        | inr t =>
          obtain ⟨L'', h6, h7⟩ := h5
          have hl3 : W3.heap[l]? = some (.loop { rec0 with state := .busy }) := h7.mem getElem?_app1
          have hstt := hst t rfl
          rcases hJe t e L'' h6 with rfl | ⟨id, rfl⟩
          · exact ⟨_, _, run_endRound (some .ret) hl3, .inr ⟨rfl, t, .ret, .ret, L'', hstt, h6, .inl ⟨rfl, rfl⟩, h7.putLoop⟩⟩
          · exact ⟨_, _, run_endRound (some (.exit id)) hl3, .inr ⟨rfl, t, .exit id, .exit id, L'', hstt, h6, .inr ⟨id, rfl, rfl⟩, h7.putLoop⟩⟩
      | _ => exact h4.elim

/-- How a round's body ends, within another round. -/
def rgN {S T : Type} (w0 : World) (l : Nat) (rec : Loop) (I : S → List Res → Prop) (J : T → Exit → List Res → Prop) (st : S ⊕ T) : Exit → Act → World → Prop := fun e _ W =>
  match st with
  | .inl s' => e = .normal ∧ ∃ L', I s' L' ∧ Ext w0 W (L' ++ [lpR l { rec with state := .busy }])
  | .inr t => ∃ L', J t e L' ∧ Ext w0 W (L' ++ [lpR l { rec with state := .busy }])
theorem ex_nnext {S T : Type} {I : S → List Res → Prop} {J : T → Exit → List Res → Prop} {l : Nat} {rec : Loop} {s' : S} (L' : List Res) (h : I s' L') : EX (rgN w0 l rec I J (.inl s')) .normal w0 (L' ++ [lpR l { rec with state := .busy }]) m tm d :=
  fun _ hW => ⟨rfl, L', h, hW⟩
theorem ex_nstop {S T : Type} {I : S → List Res → Prop} {J : T → Exit → List Res → Prop} {l : Nat} {rec : Loop} {t : T} {e : Exit} (L' : List Res) (h : J t e L') : EX (rgN w0 l rec I J (.inr t)) e w0 (L' ++ [lpR l { rec with state := .busy }]) m tm d :=
  fun _ hW => ⟨L', h, hW⟩
theorem getElem?_app2 {L : List Res} {q : Res} : (L ++ [q])[L.length]? = some q := by simp
theorem Ext.putLoop1 {W : World} {l : Nat} {rec rec' : Loop} (h : Ext w0 W (L ++ [lpR l rec])) : Ext w0 (W.putObj l (.loop rec')) (L ++ [lpR l rec']) := by
  have hl : W.heap[l]? = some (.loop rec) := h.mem getElem?_app2
  have hlt : l < W.heap.size := lt_of_block hl
  have := h.set getElem?_app2 (lpR l rec') (W' := W.putObj l (.loop rec')) (World.putObj_heap_same hlt) rfl rfl rfl (by simp [World.putObj]) (fun b hb hn => World.putObj_heap_other (fun e => hn e)) (fun b hb => .inl hb)
  have e : (L ++ [lpR l rec]).set L.length (lpR l rec') = L ++ [lpR l rec'] := by rw [List.set_append_right _ _ (Nat.le_refl _)]; simp
  rw [e] at this
  exact this
/-- The same within a round of another. -/
theorem cx_rangeN {α S T : Type} {enc : α → Value} {bodyf : S → α → Option (S ⊕ T)} {g : Operand} {p : Tmp} {assign body : Code} {gf : Nat} {caps : List Value} {H : World → Prop} {xs : List α} {s0 : S} {st : S ⊕ T}
    {l0 : Nat} {r0 : Loop} (i0 : Nat) (hi0 : L[i0]? = some (lpR l0 r0)) (I : S → List Res → Prop) (J : T → Exit → List Res → Prop) (hl : foldO bodyf xs s0 = some st) (hg : opv m tm g = .func (.func gf) #[] caps.toArray) (hgo : goes P gf = true)
    (hseq : SeqH P gf caps (fun x => [enc x]) H xs) (hH : ∀ W s L', I s L' → Ext w0 W L' → H W) (h0 : I s0 L)
    (hcyI : ∀ W, Ext w0 W L → ∀ s L', I s L' → CyL W.heap.size L') (hcyJ : ∀ W, Ext w0 W L → ∀ t e L', J t e L' → CyL W.heap.size L')
    (hJe : ∀ t e L', J t e L' → e = .ret ∨ ∃ id, e = .exit id)
    (round : ∀ l rec s x L' st', rec.state = .ready → I s L' → bodyf s x = some st' → CX (some l) 6 P assign (asgQ 6 P l body (rgN w0 l rec I J st')) w0 (L' ++ [lpR l rec]) m (upd tm p (enc x)) [])
    (done : ∀ s L', st = .inl s → I s L' → EX Q .normal w0 L' m tm d)
    (stop : ∀ t e L', st = .inr t → J t e L' → EX Q e w0 L' m tm d) : CX (some l0) 6 P (.rangeFunc g #[p] assign body) Q w0 L m tm d := fun W hW => by
  refine wpIn_rangeFunc ?_
  intro fn hfn
  obtain ⟨rec0, hrec0⟩ : ∃ rec0 : Loop, rec0 = { state := .ready, pending := none, fn, tmps := (act m tm d).tmps, params := #[p], assign, body, defers := r0.defers } := ⟨_, rfl⟩
  have hW1 : Ext w0 (W.alloc (.loop rec0)) (L ++ [lpR W.heap.size rec0]) := hW.alloc (.loop rec0)
  have hab : ∀ (row : Option Nat) (A : World), (∀ x, row = some x → (W.alloc (.loop rec0)).heap.size ≤ x ∧ ∃ o : Obj, A.heap[x]? = some o ∧ o.isWalk = true) → ∀ x, row = some x → w0.heap.size ≤ x ∧ W.heap.size ≤ x ∧ ∃ o : Obj, A.heap[x]? = some o ∧ o.isWalk = true := fun row A hr x hx => by
    obtain ⟨h1, h2⟩ := hr x hx
    have := hW.size
    simp at h1
    exact ⟨by omega, by omega, h2⟩
  refine ⟨W.heap.size, [], (W.alloc (.loop rec0)), { target := .fn (.func gf) caps.toArray, args := #[.func (.yield W.heap.size) #[] #[]] }, (W.alloc (.loop rec0)), gf,
    #[.func (.yield W.heap.size) #[] #[]] ++ caps.toArray, (W.alloc (.loop rec0)), (by rw [hrec0]; exact run_enterLoop_inner (hW.mem hi0) _ _ _ _ _), ?_, fun _ _ => trivial, ?_, fun hd => (by cases hd), ?_⟩
  · have hg' : (act m tm d).eval g = .func (.func gf) #[] caps.toArray := by rw [eval_act]; exact hg
    simp only [resolve, hg']
    simp [go_sem]
  · have := run_goes hgo (#[.func (.yield W.heap.size) #[] #[]] ++ caps.toArray) (W.alloc (.loop rec0))
    simp only [invoke]
    exact this
  · generalize hD : W.heap.size = l at *
    have hseq1 := hseq l
      (fun i W' => ∃ s L', foldO bodyf (xs.take i) s0 = some (.inl s) ∧ I s L' ∧ Ext w0 W' (L' ++ [lpR l rec0]))
      (fun W' => ∃ t e c L', st = .inr t ∧ J t e L' ∧ ((e = .ret ∧ c = Code.ret) ∨ ∃ id, e = .exit id ∧ c = Code.exit id) ∧ Ext w0 W' (L' ++ [lpR l { rec0 with state := .done, pending := some c }]))
      (W.alloc (.loop rec0)) 
      (fun i A B row hs hg' hr => by
        obtain ⟨s, L', h1, h2, h3⟩ := hs
        refine ⟨s, L', h1, h2, h3.abides (B := l) (fun q hq => ?_) hg' (hab row A hr)⟩
        rcases List.mem_append.1 hq with hq | hq
        · have := hcyI W hW s L' h2 q hq; rw [hD] at this; exact this
        · rw [List.mem_singleton.1 hq]; exact Cy.blk rfl)
      (fun i A B row hs hg' hr => by
        obtain ⟨t, e, c, L', h1, h2, h5, h3⟩ := hs
        refine ⟨t, e, c, L', h1, h2, h5, h3.abides (B := l) (fun q hq => ?_) hg' (hab row A hr)⟩
        rcases List.mem_append.1 hq with hq | hq
        · have := hcyJ W hW t e L' h2 q hq; rw [hD] at this; exact this
        · rw [List.mem_singleton.1 hq]; exact Cy.blk rfl)
      (fun i A hs => by
        obtain ⟨s, L', h1, h2, h3⟩ := hs
        have h4 := h3.take L'.length
        rw [List.take_left] at h4
        exact hH A s L' h2 h4)
      ?_ ⟨s0, L, rfl, h0, hW1⟩
    · refine (callsW (callsW' hseq1)).mono ?_
      rintro e W2 ⟨⟨v, rfl⟩, h2⟩
      rcases h2 with ⟨s, L', h3, h4, h5⟩ | ⟨t, e, c, L', h3, h4, h6, h5⟩
      · rw [List.take_length, hl] at h3
        have hl2 : W2.heap[l]? = some (.loop rec0) := h5.mem getElem?_app2
        refine ⟨rec0.pending, _, run_endLoop hl2 (by rw [hrec0]; simp), ?_⟩
        have hpd : rec0.pending = none := by rw [hrec0]
        rw [hpd]
        show Q .normal _ _
        have h7 := (h5.putLoop1 (rec' := { rec0 with state := .exhausted, pending := none })).take L'.length
        have e7 : (L' ++ [lpR l { rec0 with state := .exhausted, pending := none }]).take L'.length = L' := List.take_left
        rw [e7] at h7
        exact done s L' (Option.some.inj h3) h4 _ h7
      · have hl2 : W2.heap[l]? = some (.loop { rec0 with state := .done, pending := some c }) := h5.mem getElem?_app2
        refine ⟨some c, _, run_endLoop hl2 (by simp), ?_⟩
        have h7 := (h5.putLoop1 (rec' := { rec0 with state := .exhausted, pending := some c })).take L'.length
        have e7 : (L' ++ [lpR l { rec0 with state := .exhausted, pending := some c }]).take L'.length = L' := List.take_left
        rw [e7] at h7
        have h8 := stop t e L' h3 h4 _ h7
        rcases h6 with ⟨rfl, rfl⟩ | ⟨id, rfl, rfl⟩
        · exact wpIn_ret h8
        · exact wpIn_exit h8
    · rintro i x W1 hx ⟨s, L', h1, h2, h3⟩
      obtain ⟨st', hf, hft, hst⟩ := foldO_step hl h1 hx
      have hl1 : W1.heap[l]? = some (.loop rec0) := h3.mem getElem?_app2
      have hy := run_yield (P := P) (args := #[enc x]) hl1 (by rw [hrec0]; rfl)
      have et : ((#[p] : Array Tmp).zip #[enc x]).foldl (fun tmps (t, a) => tmps.setIfInBounds t a) (act m tm d).tmps = (act m (upd tm p (enc x)) []).tmps := by
        have h9 : (act m tm []).put (some p) (enc x) = act m (upd tm p (enc x)) [] := put_act m tm [] (some p) (enc x)
        rw [← h9]
        simp [Act.put]
        rfl
      refine ⟨fn, _, assign, body, (by rw [hy, hrec0]), roundIn_of_wpIn (F := Fw none) (n := 6) trivial ?_⟩
      have hr := round l rec0 s x L' st' (by rw [hrec0]) h2 hf W1 h3
      have ea : (act m (upd tm p (enc x)) []) = { tmps := ((#[p] : Array Tmp).zip #[enc x]).foldl (fun tmps (t, a) => tmps.setIfInBounds t a) (act m tm d).tmps, defers := [] } := by
        rw [et]; rfl
      rw [ea] at hr
      refine wpIn_mono (F := (Fw none).inRound l) hr ?_
      intro e a2 W2 h4
      cases e with
      | normal =>
        obtain ⟨w₂, hb, hbody⟩ := h4
        refine ⟨w₂, hb, wpIn_mono hbody ?_⟩
        intro e a3 W3 h5
        cases st' with
        | inl s' =>
          obtain ⟨rfl, L'', h6, h7⟩ := h5
          have hl3 : W3.heap[l]? = some (.loop { rec0 with state := .busy }) := h7.mem getElem?_app2
          refine ⟨_, _, run_endRound none hl3, .inl ⟨rfl, ?_⟩⟩
          refine ⟨s', L'', hft, h6, ?_⟩
          have := h7.putLoop1 (rec' := rec0)
          rw [hrec0] at this ⊢
          exact this
        | inr t =>
          obtain ⟨L'', h6, h7⟩ := h5
          have hl3 : W3.heap[l]? = some (.loop { rec0 with state := .busy }) := h7.mem getElem?_app2
          have hstt := hst t rfl
          rcases hJe t e L'' h6 with rfl | ⟨id, rfl⟩
          · exact ⟨_, _, run_endRound (some .ret) hl3, .inr ⟨rfl, t, .ret, .ret, L'', hstt, h6, .inl ⟨rfl, rfl⟩, h7.putLoop1⟩⟩
          · exact ⟨_, _, run_endRound (some (.exit id)) hl3, .inr ⟨rfl, t, .exit id, .exit id, L'', hstt, h6, .inr ⟨id, rfl, rfl⟩, h7.putLoop1⟩⟩
      | _ => exact h4.elim
end
end Go.Proofs.Ytndajeiecdmhnaa
