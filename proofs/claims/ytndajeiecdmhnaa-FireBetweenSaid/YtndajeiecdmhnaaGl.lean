/- Words for walks: a loop over an iterator's function, from the loop's side. -/
import Derived.Test.YtndajeiecdmhnaaGi
import Derived.RangeFuncLeaves
import Derived.RangeFuncFrom
namespace Go.Proofs.Ytndajeiecdmhnaa
open Go.RowKit (Below)

/-- The blocks bs hold what they held. -/
def KpB (bs : List Nat) (A B : World) : Prop := ∀ b ∈ bs, B.heap[b]? = A.heap[b]?
/-- **What an iterator's function promises**: it hands over the list's elements, one behind the other. -/
def SeqX (P : Program) (g : Nat) (caps : List Value) {α : Type} (enc : α → List Value) (bs : List Nat) (xs : List α) (w : World) : Prop :=
  ∀ (l : Nat) (J : Nat → World → Prop) (Jx : World → Prop) (W : World), Below w.heap.size w W → AbidesFrom W.heap.size J → AbidesFrom W.heap.size (fun (_ : Unit) => Jx) →
    (∀ i x W1, xs[i]? = some x → J i W1 → YieldAt (Fw none) 6 P l (enc x).toArray W1 fun e W' => (e = .returned (.bool true) ∧ J (i + 1) W' ∧ KpB bs W1 W') ∨ (e = .returned (.bool false) ∧ Jx W')) →
    J 0 W → CallsIn (Fw none) 7 P g (#[.func (.yield l) #[] #[]] ++ caps.toArray) W fun e W' => (∃ v, e = .returned v) ∧ (J xs.length W' ∨ Jx W')
theorem SeqX.later {P : Program} {g : Nat} {caps : List Value} {α : Type} {enc : α → List Value} {bs : List Nat} {xs : List α} {w w' : World} (h : SeqX P g caps enc bs xs w) (hb : Below w.heap.size w w') : SeqX P g caps enc bs xs w' :=
  fun l J Jx W hW => h l J Jx W (hb.trans (hW.mono hb.size))

section
variable {r : Option Nat} {n : Nat} {P : Program} {Q : Exit → Act → World → Prop} {w0 : World} {L : List Res} {m : Nat} {tm : Nat → Value} {d : List Deferred}

/-- The piece for the rounds' deferred calls; the loop's record. -/
def dfR (D : Nat) : Res := blk D (.deferred (some []))
def lpR (l : Nat) (rec : Loop) : Res := blk l (.loop rec)
/-- How a round's body ends. -/
def rgQ {S T : Type} (w0 : World) (D l : Nat) (rec : Loop) (I : S → List Res → Prop) (J : T → Exit → List Res → Prop) (st : S ⊕ T) : Exit → Act → World → Prop := fun e _ W =>
  match st with
  | .inl s' => e = .normal ∧ ∃ L', I s' L' ∧ Ext w0 W (L' ++ [dfR D, lpR l { rec with state := .busy }])
  | .inr t => ∃ L', J t e L' ∧ Ext w0 W (L' ++ [dfR D, lpR l { rec with state := .busy }])
theorem ex_rnext {S T : Type} {I : S → List Res → Prop} {J : T → Exit → List Res → Prop} {D l : Nat} {rec : Loop} {s' : S} (L' : List Res) (h : I s' L') : EX (rgQ w0 D l rec I J (.inl s')) .normal w0 (L' ++ [dfR D, lpR l { rec with state := .busy }]) m tm d :=
  fun _ hW => ⟨rfl, L', h, hW⟩
theorem ex_rstop {S T : Type} {I : S → List Res → Prop} {J : T → Exit → List Res → Prop} {D l : Nat} {rec : Loop} {t : T} {e : Exit} (L' : List Res) (h : J t e L') : EX (rgQ w0 D l rec I J (.inr t)) e w0 (L' ++ [dfR D, lpR l { rec with state := .busy }]) m tm d :=
  fun _ hW => ⟨L', h, hW⟩
/-- Between the assignment and the body. -/
def asgQ (n : Nat) (P : Program) (l : Nat) (body : Code) (Q : Exit → Act → World → Prop) : Exit → Act → World → Prop :=
  Exit.then (fun a₁ w₁ => ∃ w₂, (Instr.beginRound l).run P w₁ = .ok () w₂ ∧ body.wpIn (Fw (some l)) n P Q a₁ w₂) (fun _ _ _ => False)
theorem ex_begin {body : Code} {l : Nat} {rec : Loop} (i : Nat) (hL : L[i]? = some (lpR l rec)) (hr : rec.state = .ready) (h : CX (some l) n P body Q w0 (L.set i (lpR l { rec with state := .busy })) m tm d) : EX (asgQ n P l body Q) .normal w0 L m tm d := fun W hW => by
  have hl : W.heap[l]? = some (.loop rec) := hW.mem hL
  have hlt : l < W.heap.size := lt_of_block hl
  refine ⟨_, run_beginRound hl hr, h _ ?_⟩
  refine hW.set hL (lpR l { rec with state := .busy }) (World.putObj_heap_same hlt) rfl rfl rfl (by simp [World.putObj]) (fun b hb hn => World.putObj_heap_other (fun e => hn e)) (fun b hb => .inl hb)

/-- A piece's blocks lay already, or are no walk's objects. -/
def Cy (B : Nat) (p : Res) : Prop := ∀ W b, p.holds W → p.dom b → b < B ∨ ∃ o : Obj, W.heap[b]? = some o ∧ o.isWalk = false
theorem Cy.blk {B b : Nat} {o : Obj} (h : o.isWalk = false) : Cy B (blk b o) := fun W c hh hc => by
  have hc' : c = b := hc
  subst hc'
  exact .inr ⟨o, hh, h⟩
theorem Cy.cells {B b : Nat} {e : TypeId} {cs : List Value} : Cy B (cellsR b e cs) := Cy.blk rfl
theorem Cy.row {B : Nat} {A : Option Addr} {c : Nat} {e : TypeId} {sz n : Nat} {cs : List Value} : Cy B (rowR A c e sz n cs) := fun W b hh hb => by
  obtain ⟨a, rfl, rfl⟩ := hb
  have hh' : W.ownsRow 0 e sz (.slice (some a) n c) n cs := hh
  rcases hh'.2 with ⟨h2, _⟩ | ⟨g', cap, cur, hv, _, hg, _⟩
  · cases h2
  · simp only [Value.slice.injEq, Option.some.injEq] at hv
    obtain ⟨rfl, _, _⟩ := hv
    exact .inr ⟨_, hg, rfl⟩
def CyL (B : Nat) (L : List Res) : Prop := ∀ p ∈ L, Cy B p
theorem CyL.nil {B : Nat} : CyL B [] := fun p hp => by cases hp
theorem CyL.cons {B : Nat} {p : Res} {L : List Res} (h : Cy B p) (h' : CyL B L) : CyL B (p :: L) := fun q hq => by
  rcases List.mem_cons.1 hq with rfl | hq
  · exact h
  · exact h' q hq
theorem Ext.abides {W W' : World} {B : Nat} {row : Option Nat} (h : Ext w0 W L) (hc : CyL B L) (hg : W.grownBy W' row) (hr : ∀ x, row = some x → w0.heap.size ≤ x ∧ B ≤ x ∧ ∃ o : Obj, W.heap[x]? = some o ∧ o.isWalk = true) : Ext w0 W' L := by
  refine h.keep (h.below.trans ⟨hg.os, hg.tape, hg.output, hg.size, fun k hk => hg.block k (Nat.lt_of_lt_of_le hk h.size) (fun e => ?_)⟩) hg.size (fun i p hp b hd => hg.block b (p.inb W (h.all i p hp) b hd) (fun e => ?_))
  · have := (hr k e.symm).1
    omega
  · obtain ⟨_, h2, o, ho, hw⟩ := hr b e.symm
    rcases hc p (List.mem_of_getElem? hp) W b (h.all i p hp) hd with h3 | ⟨o', ho', hw'⟩
    · omega
    · rw [ho] at ho'; cases ho'; rw [hw] at hw'; cases hw'

theorem getElem?_app0 {L : List Res} {p q : Res} : (L ++ [p, q])[L.length]? = some p := by simp
theorem getElem?_app1 {L : List Res} {p q : Res} : (L ++ [p, q])[L.length + 1]? = some q := by simp
theorem set_app1 {L : List Res} {p q q' : Res} : (L ++ [p, q]).set (L.length + 1) q' = L ++ [p, q'] := by
  rw [List.set_append_right _ _ (by omega)]
  simp
theorem Ext.putLoop {W : World} {p : Res} {l : Nat} {rec rec' : Loop} (h : Ext w0 W (L ++ [p, lpR l rec])) : Ext w0 (W.putObj l (.loop rec')) (L ++ [p, lpR l rec']) := by
  have hl : W.heap[l]? = some (.loop rec) := h.mem getElem?_app1
  have hlt : l < W.heap.size := lt_of_block hl
  have := h.set getElem?_app1 (lpR l rec') (W' := W.putObj l (.loop rec')) (World.putObj_heap_same hlt) rfl rfl rfl (by simp [World.putObj]) (fun b hb hn => World.putObj_heap_other (fun e => hn e)) (fun b hb => .inl hb)
  rw [set_app1] at this
  exact this

/-- **'for x := range seq { .. }'**. -/
theorem cx_range {α S T : Type} {enc : α → Value} {bodyf : S → α → Option (S ⊕ T)} {g : Operand} {p : Tmp} {assign body : Code} {gf : Nat} {caps : List Value} {bs : List Nat} {xs : List α} {s0 : S} {st : S ⊕ T}
    (I : S → List Res → Prop) (J : T → Exit → List Res → Prop) (hl : foldO bodyf xs s0 = some st) (hg : opv m tm g = .func (.func gf) #[] caps.toArray) (hgo : goes P gf = true)
    (hseq : ∀ W, Ext w0 W L → SeqX P gf caps (fun x => [enc x]) bs xs W) (hbs : ∀ b ∈ bs, b < w0.heap.size ∨ ∃ o : Obj, ∀ s (L' : List Res), I s L' → ∃ i : Nat, L'[i]? = some (blk b o)) (h0 : I s0 L)
    (hcyI : ∀ W, Ext w0 W L → ∀ s L', I s L' → CyL W.heap.size L') (hcyJ : ∀ W, Ext w0 W L → ∀ t e L', J t e L' → CyL W.heap.size L')
    (hJe : ∀ t e L', J t e L' → e = .ret ∨ ∃ id, e = .exit id)
    (round : ∀ D l rec s x L' st', rec.state = .ready → I s L' → bodyf s x = some st' → CX (some l) 6 P assign (asgQ 6 P l body (rgQ w0 D l rec I J st')) w0 (L' ++ [dfR D, lpR l rec]) m (upd tm p (enc x)) [])
    (done : ∀ D s L', st = .inl s → I s L' → EX Q .normal w0 (L' ++ [dfR D]) m tm (⟨.collected D, #[]⟩ :: d))
    (stop : ∀ D t e L', st = .inr t → J t e L' → EX Q e w0 (L' ++ [dfR D]) m tm (⟨.collected D, #[]⟩ :: d)) : CX none 8 P (.rangeFunc g #[p] assign body) Q w0 L m tm d := fun W hW => by
  refine wpIn_rangeFunc ?_
  intro fn hfn
  obtain ⟨rec0, hrec0⟩ : ∃ rec0 : Loop, rec0 = { state := .ready, pending := none, fn, tmps := (act m tm d).tmps, params := #[p], assign, body, defers := W.heap.size } := ⟨_, rfl⟩
  have hW1 : Ext w0 ((W.alloc (.deferred (some []))).alloc (.loop rec0)) (L ++ [dfR W.heap.size, lpR (W.heap.size + 1) rec0]) := by
    have h1 := (hW.alloc (.deferred (some []))).alloc (.loop rec0)
    rw [World.size_alloc, List.append_assoc] at h1
    exact h1
  have hab : ∀ (row : Option Nat) (A : World), (∀ x, row = some x → ((W.alloc (.deferred (some []))).alloc (.loop rec0)).heap.size ≤ x ∧ ∃ o : Obj, A.heap[x]? = some o ∧ o.isWalk = true) → ∀ x, row = some x → w0.heap.size ≤ x ∧ W.heap.size ≤ x ∧ ∃ o : Obj, A.heap[x]? = some o ∧ o.isWalk = true := fun row A hr x hx => by
    obtain ⟨h1, h2⟩ := hr x hx
    have := hW.size
    simp at h1
    exact ⟨by omega, by omega, h2⟩
  refine ⟨W.heap.size + 1, [{ target := .collected W.heap.size, args := #[] }], ((W.alloc (.deferred (some []))).alloc (.loop rec0)), { target := .fn (.func gf) caps.toArray, args := #[.func (.yield (W.heap.size + 1)) #[] #[]] }, ((W.alloc (.deferred (some []))).alloc (.loop rec0)), gf,
    #[.func (.yield (W.heap.size + 1)) #[] #[]] ++ caps.toArray, ((W.alloc (.deferred (some []))).alloc (.loop rec0)), (by rw [hrec0]; exact run_enterLoop_outer _ _ _ _ _), ?_, fun _ _ => trivial, ?_, fun hd => (by cases hd), ?_⟩
  · have hg' : (act m tm d).eval g = .func (.func gf) #[] caps.toArray := by rw [eval_act]; exact hg
    simp only [resolve, hg']
    simp [go_sem]
  · have := run_goes hgo (#[.func (.yield (W.heap.size + 1)) #[] #[]] ++ caps.toArray) ((W.alloc (.deferred (some []))).alloc (.loop rec0))
    simp only [invoke]
    exact this
  · generalize hl0 : W.heap.size + 1 = l
    rw [hl0] at hW1
    generalize hD : W.heap.size = D at *
    have hseq1 := hseq W hW l
      (fun i W' => ∃ s L', foldO bodyf (xs.take i) s0 = some (.inl s) ∧ I s L' ∧ Ext w0 W' (L' ++ [dfR D, lpR l rec0]))
      (fun W' => ∃ t e c L', st = .inr t ∧ J t e L' ∧ ((e = .ret ∧ c = Code.ret) ∨ ∃ id, e = .exit id ∧ c = Code.exit id) ∧ Ext w0 W' (L' ++ [dfR D, lpR l { rec0 with state := .done, pending := some c }]))
      ((W.alloc (.deferred (some []))).alloc (.loop rec0)) (((Below.refl _ W).alloc (Nat.le_refl _) _).alloc (by simp) _)
      (fun i A B row hs hg' hr => by
        obtain ⟨s, L', h1, h2, h3⟩ := hs
        refine ⟨s, L', h1, h2, h3.abides (B := D) (fun q hq => ?_) hg' (hab row A hr)⟩
        rcases List.mem_append.1 hq with hq | hq
        · have := hcyI W hW s L' h2 q hq; rw [hD] at this; exact this
        · rcases List.mem_cons.1 hq with rfl | hq
          · exact Cy.blk rfl
          · rw [List.mem_singleton.1 hq]; exact Cy.blk rfl)
      (fun i A B row hs hg' hr => by
        obtain ⟨t, e, c, L', h1, h2, h5, h3⟩ := hs
        refine ⟨t, e, c, L', h1, h2, h5, h3.abides (B := D) (fun q hq => ?_) hg' (hab row A hr)⟩
        rcases List.mem_append.1 hq with hq | hq
        · have := hcyJ W hW t e L' h2 q hq; rw [hD] at this; exact this
        · rcases List.mem_cons.1 hq with rfl | hq
          · exact Cy.blk rfl
          · rw [List.mem_singleton.1 hq]; exact Cy.blk rfl)
      ?_ ⟨s0, L, rfl, h0, hW1⟩
    · refine hseq1.mono ?_
      rintro e W2 ⟨⟨v, rfl⟩, h2⟩
      rcases h2 with ⟨s, L', h3, h4, h5⟩ | ⟨t, e, c, L', h3, h4, h6, h5⟩
      · rw [List.take_length, hl] at h3
        have hl2 : W2.heap[l]? = some (.loop rec0) := h5.mem getElem?_app1
        refine ⟨rec0.pending, _, run_endLoop hl2 (by rw [hrec0]; simp), ?_⟩
        have hpd : rec0.pending = none := by rw [hrec0]
        rw [hpd]
        show Q .normal _ _
        have h7 := (h5.putLoop (rec' := { rec0 with state := .exhausted, pending := none })).take (L'.length + 1)
        have e7 : (L' ++ [dfR D, lpR l { rec0 with state := .exhausted, pending := none }]).take (L'.length + 1) = L' ++ [dfR D] := by
          rw [List.take_append]; simp [List.take_of_length_le]
        rw [e7] at h7
        exact done D s L' (Option.some.inj h3) h4 _ h7
      · have hl2 : W2.heap[l]? = some (.loop { rec0 with state := .done, pending := some c }) := h5.mem getElem?_app1
        refine ⟨some c, _, run_endLoop hl2 (by simp), ?_⟩
        have h7 := (h5.putLoop (rec' := { rec0 with state := .exhausted, pending := some c })).take (L'.length + 1)
        have e7 : (L' ++ [dfR D, lpR l { rec0 with state := .exhausted, pending := some c }]).take (L'.length + 1) = L' ++ [dfR D] := by
          rw [List.take_append]; simp [List.take_of_length_le]
        rw [e7] at h7
        have h8 := stop D t e L' h3 h4 _ h7
        rcases h6 with ⟨rfl, rfl⟩ | ⟨id, rfl, rfl⟩
        · exact wpIn_ret h8
        · exact wpIn_exit h8
    · rintro i x W1 hx ⟨s, L', h1, h2, h3⟩
      obtain ⟨st', hf, hft, hst⟩ := foldO_step hl h1 hx
      have hl1 : W1.heap[l]? = some (.loop rec0) := h3.mem getElem?_app1
      have hy := run_yield (P := P) (args := #[enc x]) hl1 (by rw [hrec0]; rfl)
      have et : ((#[p] : Array Tmp).zip #[enc x]).foldl (fun tmps (t, a) => tmps.setIfInBounds t a) (act m tm d).tmps = (act m (upd tm p (enc x)) []).tmps := by
        have h9 : (act m tm []).put (some p) (enc x) = act m (upd tm p (enc x)) [] := put_act m tm [] (some p) (enc x)
        rw [← h9]
        simp [Act.put]
        rfl
      refine ⟨fn, _, assign, body, (by rw [hy, hrec0]), roundIn_of_wpIn (F := Fw none) (n := 6) trivial ?_⟩
      have hr := round D l rec0 s x L' st' (by rw [hrec0]) h2 hf W1 h3
      have ea : (act m (upd tm p (enc x)) []) = { tmps := ((#[p] : Array Tmp).zip #[enc x]).foldl (fun tmps (t, a) => tmps.setIfInBounds t a) (act m tm d).tmps, defers := [] } := by
        rw [et]; rfl
      rw [ea] at hr
      refine wpIn_mono (F := (Fw none).inRound l) hr ?_
      intro e a2 W2 h4
      cases e with
      | normal =>
        obtain ⟨w₂, hb, hbody⟩ := h4
        refine ⟨w₂, hb, wpIn_mono hbody ?_⟩
        intro e a3 W3 h5
        have kp : ∀ s'' L'', I s'' L'' → Ext w0 W3 (L'' ++ [dfR D, lpR l { rec0 with state := .busy }]) → KpB bs W1 (W3.putObj l (.loop rec0)) := fun s'' L'' hI hE b hb => by
          have hbl : b ≠ l → (W3.putObj l (.loop rec0)).heap[b]? = W3.heap[b]? := fun h => World.putObj_heap_other h
          have hll : w0.heap.size ≤ l := by have := hW.size; omega
          rcases hbs b hb with h6 | ⟨o, h6⟩
          · rw [hbl (by omega), hE.below.block b h6, h3.below.block b h6]
          · obtain ⟨i1, h7⟩ := h6 s L' h2
            obtain ⟨i2, h8⟩ := h6 s'' L'' hI
            have hi1 : i1 < L'.length := (List.getElem?_eq_some_iff.1 h7).1
            have hi2 : i2 < L''.length := (List.getElem?_eq_some_iff.1 h8).1
            have h9 : W1.heap[b]? = some o := h3.mem (i := i1) (by rw [List.getElem?_append_left hi1]; exact h7)
            have h10 : W3.heap[b]? = some o := hE.mem (i := i2) (by rw [List.getElem?_append_left hi2]; exact h8)
            have hne : b ≠ l := fun hbl => by
              have := hE.sep i2 (L''.length + 1) _ _ (by rw [List.getElem?_append_left hi2]; exact h8) getElem?_app1 (by omega) b rfl
              exact this hbl
            rw [hbl hne, h10, h9]
        cases st' with
        | inl s' =>
          obtain ⟨rfl, L'', h6, h7⟩ := h5
          have hl3 : W3.heap[l]? = some (.loop { rec0 with state := .busy }) := h7.mem getElem?_app1
          refine ⟨_, _, run_endRound none hl3, .inl ⟨rfl, ?_, ?_⟩⟩
          · refine ⟨s', L'', hft, h6, ?_⟩
            have := h7.putLoop (rec' := rec0)
            rw [hrec0] at this ⊢
            exact this
          · have := kp s' L'' h6 h7
            rw [hrec0] at this ⊢
            exact this
        | inr t =>
          obtain ⟨L'', h6, h7⟩ := h5
          have hl3 : W3.heap[l]? = some (.loop { rec0 with state := .busy }) := h7.mem getElem?_app1
          have hstt := hst t rfl
          rcases hJe t e L'' h6 with rfl | ⟨id, rfl⟩
          · exact ⟨_, _, run_endRound (some .ret) hl3, .inr ⟨rfl, t, .ret, .ret, L'', hstt, h6, .inl ⟨rfl, rfl⟩, h7.putLoop⟩⟩
          · exact ⟨_, _, run_endRound (some (.exit id)) hl3, .inr ⟨rfl, t, .exit id, .exit id, L'', hstt, h6, .inr ⟨id, rfl, rfl⟩, h7.putLoop⟩⟩
      | _ => exact h4.elim
end

end Go.Proofs.Ytndajeiecdmhnaa
