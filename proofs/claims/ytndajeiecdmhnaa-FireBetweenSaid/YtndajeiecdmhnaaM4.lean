/- Plain laws of fire: Clash; looks that agree; a fire without some looks; Suspects. No program in sight. -/
import Derived.Test.YtndajeiecdmhnaaM3
set_option linter.unusedVariables false
namespace Go.Proofs.Ytndajeiecdmhnaa

/-! ### More on loops -/
def outO {S T : Type} (s0 : S) (o : Option T) : S ⊕ T := match o with | none => .inl s0 | some t => .inr t
theorem foldO_search {S T α : Type} {f : S → α → Option (S ⊕ T)} (s0 : S) (R : α → Option T) : ∀ (l : List α), (∀ x ∈ l, f s0 x = some (outO s0 (R x))) → foldO f l s0 = some (outO s0 (l.findSome? R))
  | [], _ => rfl
  | x :: l, h => by
    unfold foldO
    rw [h x (by simp)]
    cases hR : R x with
    | none =>
      show foldO f l s0 = _
      rw [foldO_search s0 R l (fun y hy => h y (by simp [hy]))]
      simp [hR]
    | some t => simp [hR, outO]
theorem foldO_fold {S T α : Type} {f : S → α → Option (S ⊕ T)} (g : S → α → S) (Q : S → Prop) : ∀ (l : List α) (s0 : S), Q s0 → (∀ s x, x ∈ l → Q s → f s x = some (.inl (g s x)) ∧ Q (g s x)) → foldO f l s0 = some (.inl (l.foldl g s0)) ∧ Q (l.foldl g s0)
  | [], s0, h0, _ => ⟨rfl, h0⟩
  | x :: l, s0, h0, h => by
    obtain ⟨h1, h2⟩ := h s0 x (by simp) h0
    unfold foldO
    rw [h1]
    exact foldO_fold g Q l (g s0 x) h2 (fun s y hy hs => h s y (by simp [hy]) hs)
theorem findSome_map {α β γ : Type} (R : α → Option β) (g : β → γ) : ∀ l : List α, l.findSome? (fun x => (R x).map g) = (l.findSome? R).map g
  | [] => rfl
  | x :: l => by
    rw [List.findSome?_cons, List.findSome?_cons, findSome_map R g l]
    cases R x <;> rfl
theorem loop_foldl {S T α σ : Type} [Inhabited α] {body : S → Option (S ⊕ T)} (l : List α) (st : Nat → σ → S) (g : σ → α → σ) (s0 : σ) (fin : σ → T) (Q : Nat → σ → Prop) (h0 : Q 0 s0)
    (h : ∀ (k : Nat) (s : σ) (hk : k < l.length), Q k s → body (st k s) = some (.inl (st (k + 1) (g s l[k]))) ∧ Q (k + 1) (g s l[k])) (hs : ∀ s, Q l.length s → body (st l.length s) = some (.inr (fin s))) :
    loopO body (st 0 s0) = some (fin (l.foldl g s0)) ∧ Q l.length (l.foldl g s0) := by
  have hQ : ∀ k, k ≤ l.length → Q k ((l.take k).foldl g s0) := by
    intro k
    induction k with
    | zero => intro _; exact h0
    | succ k ih =>
      intro hk
      rw [List.take_succ_eq_append_getElem (by omega), List.foldl_append]
      exact (h k _ (by omega) (ih (by omega))).2
  have := loop_run (body := body) (fun k => st k ((l.take k).foldl g s0)) l.length (t := fin (l.foldl g s0)) (fun k hk => by
    rw [(h k _ hk (hQ k (by omega))).1, List.take_succ_eq_append_getElem hk, List.foldl_append]
    rfl) (by
    have h1 := hQ l.length (Nat.le_refl _)
    rw [List.take_length] at h1 ⊢
    exact hs _ h1)
  refine ⟨this, ?_⟩
  have h1 := hQ l.length (Nat.le_refl _)
  rw [List.take_length] at h1
  exact h1

/-! ### Clash -/
def pairs (l : List TLook) : List (TLook × TLook) := l.flatMap fun x => l.map fun y => (x, y)
theorem mem_pairs {l : List TLook} {p : TLook × TLook} : p ∈ pairs l ↔ p.1 ∈ l ∧ p.2 ∈ l := by
  unfold pairs
  simp only [List.mem_flatMap, List.mem_map]
  constructor
  · rintro ⟨x, hx, y, hy, rfl⟩; exact ⟨hx, hy⟩
  · rintro ⟨h1, h2⟩; exact ⟨p.1, h1, p.2, h2, rfl⟩
/-- The first pair of looks, by their IDs, that contradict each other. -/
def clS (f : TFire) : Option (TLook × TLook) := (srt f.fLooks).findSome? fun x => (srt f.fLooks).findSome? fun y => if agS f x y = true then some (x, y) else none
def agreeS (f : TFire) : Bool := decide (∀ x ∈ f.fLooks, ∀ y ∈ f.fLooks, agS f x y = false)
theorem clS_none {f : TFire} : clS f = none ↔ agreeS f = true := by
  unfold clS agreeS
  rw [List.findSome?_eq_none_iff, decide_eq_true_eq]
  constructor
  · intro h x hx y hy
    have := List.findSome?_eq_none_iff.1 (h x (srt_mem.2 hx)) y (srt_mem.2 hy)
    cases ha : agS f x y
    · rfl
    · rw [ha] at this; simp at this
  · intro h x hx
    rw [List.findSome?_eq_none_iff]
    intro y hy
    rw [h x (srt_mem.1 hx) y (srt_mem.1 hy)]
    simp
theorem clS_some {f : TFire} {p : TLook × TLook} (hd : (f.fLooks.map (·.fID)).Nodup) (h : clS f = some p) : p.1 ∈ f.fLooks ∧ p.2 ∈ f.fLooks ∧ agS f p.1 p.2 = true ∧ ∀ x ∈ f.fLooks, ∀ y ∈ f.fLooks, agS f x y = true → p.1.fID < x.fID ∨ (p.1.fID = x.fID ∧ p.2.fID ≤ y.fID) := by
  unfold clS at h
  obtain ⟨A, a, B, hs, h2, hA⟩ := List.findSome?_eq_some_iff.1 h
  obtain ⟨C, b, D, hs', h2', hC⟩ := List.findSome?_eq_some_iff.1 h2
  by_cases hag : agS f a b = true
  · rw [if_pos hag] at h2'
    cases h2'
    have hso := srt_sorted hd
    refine ⟨srt_mem.1 (by rw [hs]; simp), srt_mem.1 (by rw [hs']; simp), hag, ?_⟩
    intro x hx y hy hxy
    have hx' := srt_mem.2 hx
    have hy' := srt_mem.2 hy
    rw [hs] at hx'
    have hso1 := hso
    rw [hs] at hso1
    unfold Sorted at hso1
    rw [List.pairwise_append, List.pairwise_cons] at hso1
    rcases List.mem_append.1 hx' with hx' | hx'
    · have := List.findSome?_eq_none_iff.1 (hA x hx') y hy'
      rw [hxy] at this
      simp at this
    · rcases List.mem_cons.1 hx' with rfl | hx'
      · right
        refine ⟨rfl, ?_⟩
        rw [hs'] at hy' hso
        unfold Sorted at hso
        rw [List.pairwise_append, List.pairwise_cons] at hso
        rcases List.mem_append.1 hy' with hy' | hy'
        · have := hC y hy'
          rw [hxy] at this
          simp at this
        · rcases List.mem_cons.1 hy' with rfl | hy'
          · exact Int.le_refl _
          · have := hso.2.1.1 y hy'
            exact Int.le_of_lt this
      · left
        exact hso1.2.1.1 x hx'
  · rw [if_neg hag] at h2'
    cases h2'
def zL : TLook := ⟨0, ⟨0, 0⟩, ⟨0, 0⟩⟩
theorem clash_eq {f : TFire} (h : Ok12 f) : fire_clash f = some (match clS f with | none => (zL, zL, false) | some p => (p.1, p.2, true)) := by
  have hS := sorted_eq h
  have hok := h.1.2.2.1
  have hsl := h.1.1
  have hlen : seqLook_ok (srt f.fLooks) := seqLook_of h.1.2.1
  let tup : TLook × TLook → Int × Int × Int × Int × Int × Int × Int × Int × Int × Int × Bool := fun p => (p.1.fID, p.1.fAt.fFoot, p.1.fAt.fHour, p.1.fHeat.fLo, p.1.fHeat.fHi, p.2.fID, p.2.fAt.fFoot, p.2.fAt.fHour, p.2.fHeat.fLo, p.2.fHeat.fHi, true)
  have hin : ∀ x ∈ srt f.fLooks, foldO (fire_clash_r2 f x) (seqLook (srt f.fLooks)) (0, 0, 0, 0, 0, 0, 0, 0, 0, 0, false) = some (outO (0, 0, 0, 0, 0, 0, 0, 0, 0, 0, false) ((srt f.fLooks).findSome? (fun y => (if agS f x y = true then some (x, y) else none).map tup))) := by
    intro x hx
    refine foldO_search _ _ _ (fun y hy => ?_)
    unfold fire_clash_r2
    rw [against_eq hsl (hok x (srt_mem.1 hx)) (hok y (srt_mem.1 hy)), Option.bind_some]
    cases agS f x y <;> rfl
  have hout : foldO (fire_clash_r1 f) (seqLook (srt f.fLooks)) (0, 0, 0, 0, 0, 0, 0, 0, 0, 0, false) = some (outO (0, 0, 0, 0, 0, 0, 0, 0, 0, 0, false) ((srt f.fLooks).findSome? (fun x => ((srt f.fLooks).findSome? (fun y => (if agS f x y = true then some (x, y) else none))).map tup))) := by
    refine foldO_search _ _ _ (fun x hx => ?_)
    unfold fire_clash_r1
    rw [hS, Option.bind_some, guardO_pos hlen]
    dsimp only
    rw [hin x hx, findSome_map]
    cases (srt f.fLooks).findSome? (fun y => (if agS f x y = true then some (x, y) else none)) <;> rfl
  unfold fire_clash
  rw [hS, Option.bind_some, guardO_pos hlen, hout, findSome_map]
  show _ = some (match clS f with | none => (zL, zL, false) | some p => (p.1, p.2, true))
  unfold clS
  cases (srt f.fLooks).findSome? (fun x => (srt f.fLooks).findSome? (fun y => (if agS f x y = true then some (x, y) else none))) <;> rfl
theorem agree_eq {f : TFire} (h : Ok12 f) : fire_agree f = some (agreeS f) := by
  unfold fire_agree
  rw [clash_eq h]
  have := @clS_none f
  cases hc : clS f with
  | none => rw [hc] at this; rw [this.1 rfl]; rfl
  | some p =>
    rw [hc] at this
    cases ha : agreeS f
    · rfl
    · have := this.2 ha; cases this
/-- What Clash tells. -/
def ClashS (f : TFire) : Int × Int × Bool := match clS f with | none => (0, 0, false) | some p => (p.1.fID, p.2.fID, true)
theorem Clash_eq {f : TFire} (hl : f.fLooks.length < 1000000000) (h : CheckS f = 0 → Ok12 f) : fire_Clash f = some (if CheckS f = 0 then ((ClashS f).1, (ClashS f).2.1, (ClashS f).2.2, 0) else (0, 0, false, CheckS f)) := by
  unfold fire_Clash
  rw [Check_eq f hl, Option.bind_some]
  by_cases hc : CheckS f = 0
  · rw [if_pos hc, hc, clash_eq (h hc)]
    unfold ClashS
    cases clS f <;> rfl
  · rw [if_neg hc, if_pos (by simpa using hc)]
def stepC (f : TFire) (s : Int × Int × Bool) (x y : TLook) : Int × Int × Bool := if (agS f x y && ((!s.2.2 || decide (x.fID < s.1)) || (x.fID == s.1 && decide (y.fID < s.2.1)))) = true then (x.fID, y.fID, true) else s
theorem rClash_l2 {f : TFire} (h : OkF f) (i : Nat) (hi : i < f.fLooks.length) (s : Int × Int × Bool) : loopO (calxref02_Clash_l2 f ((i : Int), s.1, s.2.1, s.2.2)) (0, s.1, s.2.1, s.2.2) = some ((f.fLooks.length : Int), (f.fLooks.foldl (fun s y => stepC f s f.fLooks[i] y) s).1, (f.fLooks.foldl (fun s y => stepC f s f.fLooks[i] y) s).2.1, (f.fLooks.foldl (fun s y => stepC f s f.fLooks[i] y) s).2.2) := by
  have hlen := h.2.1
  have := (loop_foldl (body := calxref02_Clash_l2 f ((i : Int), s.1, s.2.1, s.2.2)) f.fLooks (fun k (s : Int × Int × Bool) => ((k : Int), s.1, s.2.1, s.2.2)) (fun s y => stepC f s f.fLooks[i] y) s (fun s => ((f.fLooks.length : Int), s.1, s.2.1, s.2.2)) (fun _ _ => True) trivial (fun k t hk _ => by
    have c1 : decide ((k : Int) < ((f.fLooks.length : Nat) : Int)) = true := decide_eq_true (by omega)
    have c2 : (0 : Int) ≤ (k : Int) ∧ (k : Int) < ((f.fLooks.length : Nat) : Int) := by omega
    have c3 : (0 : Int) ≤ (i : Int) ∧ (i : Int) < ((f.fLooks.length : Nat) : Int) := by omega
    refine ⟨?_, trivial⟩
    unfold calxref02_Clash_l2 stepC; dsimp only
    simp only [c1, if_true, guardO_pos c2, guardO_pos c3, rdL_nat hk, rdL_nat hi, TLook_eta, ragainst_eq h.1 (h.2.2.1 _ (List.getElem_mem hi)) (h.2.2.1 _ (List.getElem_mem hk)), Option.bind_some, w64_succ (show k < 9223372036854775807 by omega)]
    split <;> rfl) (fun t _ => by
    unfold calxref02_Clash_l2; dsimp only
    rw [ite_f (by omega)])).1
  exact this
theorem rClash_l1 {f : TFire} (h : OkF f) : loopO (calxref02_Clash_l1 f) (0, 0, 0, false) = some ((f.fLooks.length : Int), (f.fLooks.foldl (fun s x => f.fLooks.foldl (fun s y => stepC f s x y) s) (0, 0, false)).1, (f.fLooks.foldl (fun s x => f.fLooks.foldl (fun s y => stepC f s x y) s) (0, 0, false)).2.1, (f.fLooks.foldl (fun s x => f.fLooks.foldl (fun s y => stepC f s x y) s) (0, 0, false)).2.2) := by
  have hlen := h.2.1
  have := (loop_foldl (body := calxref02_Clash_l1 f) f.fLooks (fun k (s : Int × Int × Bool) => ((k : Int), s.1, s.2.1, s.2.2)) (fun s x => f.fLooks.foldl (fun s y => stepC f s x y) s) (0, 0, false) (fun s => ((f.fLooks.length : Int), s.1, s.2.1, s.2.2)) (fun _ _ => True) trivial (fun k t hk _ => by
    refine ⟨?_, trivial⟩
    unfold calxref02_Clash_l1; dsimp only
    rw [ite_t (by omega), rClash_l2 h k hk t, Option.bind_some, w64_succ (by omega)]) (fun t _ => by
    unfold calxref02_Clash_l1; dsimp only
    rw [ite_f (by omega)])).1
  exact this
def InvC (f : TFire) (ps : List (TLook × TLook)) (s : Int × Int × Bool) : Prop :=
  (s = (0, 0, false) ∧ ∀ p ∈ ps, agS f p.1 p.2 = false) ∨ (s.2.2 = true ∧ (∃ p ∈ ps, agS f p.1 p.2 = true ∧ s.1 = p.1.fID ∧ s.2.1 = p.2.fID) ∧ ∀ q ∈ ps, agS f q.1 q.2 = true → s.1 < q.1.fID ∨ (s.1 = q.1.fID ∧ s.2.1 ≤ q.2.fID))
theorem InvC_step {f : TFire} {ps : List (TLook × TLook)} {s : Int × Int × Bool} (h : InvC f ps s) (x y : TLook) : InvC f (ps ++ [(x, y)]) (stepC f s x y) := by
  unfold stepC
  by_cases ha : agS f x y = true
  · rw [ha, Bool.true_and]
    rcases h with ⟨h1, h2⟩ | ⟨h1, ⟨p, hp, hp2, hp3, hp4⟩, h3⟩
    · subst h1
      rw [if_pos (by rfl)]
      refine .inr ⟨rfl, ⟨(x, y), by simp, ha, rfl, rfl⟩, ?_⟩
      intro q hq hq2
      rcases List.mem_append.1 hq with hq | hq
      · rw [h2 q hq] at hq2; cases hq2
      · rw [List.mem_singleton.1 hq]; exact .inr ⟨rfl, Int.le_refl _⟩
    · rw [h1]
      by_cases hc : x.fID < s.1 ∨ (x.fID = s.1 ∧ y.fID < s.2.1)
      · rw [if_pos (by simpa using hc)]
        refine .inr ⟨rfl, ⟨(x, y), by simp, ha, rfl, rfl⟩, ?_⟩
        intro q hq hq2
        dsimp only
        rcases List.mem_append.1 hq with hq | hq
        · have := h3 q hq hq2
          omega
        · rw [List.mem_singleton.1 hq]; exact .inr ⟨rfl, Int.le_refl _⟩
      · rw [if_neg (by simpa using hc)]
        refine .inr ⟨h1, ⟨p, by simp [hp], hp2, hp3, hp4⟩, ?_⟩
        intro q hq hq2
        rcases List.mem_append.1 hq with hq | hq
        · exact h3 q hq hq2
        · rw [List.mem_singleton.1 hq]
          dsimp only
          omega
  · have ha' : agS f x y = false := by simpa using ha
    rw [ha', Bool.false_and, if_neg Bool.false_ne_true]
    rcases h with ⟨h1, h2⟩ | ⟨h1, ⟨p, hp, hp2, hp3, hp4⟩, h3⟩
    · refine .inl ⟨h1, ?_⟩
      intro q hq
      rcases List.mem_append.1 hq with hq | hq
      · exact h2 q hq
      · rw [List.mem_singleton.1 hq]; exact ha'
    · refine .inr ⟨h1, ⟨p, by simp [hp], hp2, hp3, hp4⟩, ?_⟩
      intro q hq hq2
      rcases List.mem_append.1 hq with hq | hq
      · exact h3 q hq hq2
      · rw [List.mem_singleton.1 hq, ha'] at hq2; cases hq2
theorem InvC_row {f : TFire} (x : TLook) : ∀ (l : List TLook) (ps : List (TLook × TLook)) (s : Int × Int × Bool), InvC f ps s → InvC f (ps ++ l.map fun y => (x, y)) (l.foldl (fun s y => stepC f s x y) s)
  | [], ps, s, h => by simpa using h
  | y :: l, ps, s, h => by
    have := InvC_row x l _ _ (InvC_step h x y)
    simpa using this
theorem InvC_all {f : TFire} (m : List TLook) : ∀ (l : List TLook) (ps : List (TLook × TLook)) (s : Int × Int × Bool), InvC f ps s → InvC f (ps ++ l.flatMap fun x => m.map fun y => (x, y)) (l.foldl (fun s x => m.foldl (fun s y => stepC f s x y) s) s)
  | [], ps, s, h => by simpa using h
  | x :: l, ps, s, h => by
    have := InvC_all m l _ _ (InvC_row x m ps s h)
    simpa using this
theorem rClash_S {f : TFire} (h : OkF f) : f.fLooks.foldl (fun s x => f.fLooks.foldl (fun s y => stepC f s x y) s) (0, 0, false) = ClashS f := by
  have h1 := InvC_all (f := f) f.fLooks f.fLooks [] (0, 0, false) (.inl ⟨rfl, by simp⟩)
  rw [List.nil_append] at h1
  generalize hs : f.fLooks.foldl (fun s x => f.fLooks.foldl (fun s y => stepC f s x y) s) (0, 0, false) = s at h1 ⊢
  have hmem : ∀ p : TLook × TLook, p ∈ (f.fLooks.flatMap fun x => f.fLooks.map fun y => (x, y)) ↔ p.1 ∈ f.fLooks ∧ p.2 ∈ f.fLooks := fun p => mem_pairs
  unfold ClashS
  rcases h1 with ⟨e1, e2⟩ | ⟨e1, ⟨p, hp, hp2, hp3, hp4⟩, e3⟩
  · have : clS f = none := by
      rw [clS_none]
      unfold agreeS
      rw [decide_eq_true_eq]
      intro x hx y hy
      exact e2 (x, y) ((hmem _).2 ⟨hx, hy⟩)
    rw [this, e1]
  · cases hc : clS f with
    | none =>
      rw [clS_none] at hc
      unfold agreeS at hc
      rw [decide_eq_true_eq] at hc
      have := hc p.1 ((hmem p).1 hp).1 p.2 ((hmem p).1 hp).2
      rw [this] at hp2
      cases hp2
    | some q =>
      obtain ⟨q1, q2, q3, q4⟩ := clS_some h.2.2.2 hc
      have a1 := q4 p.1 ((hmem p).1 hp).1 p.2 ((hmem p).1 hp).2 hp2
      have a2 := e3 q ((hmem q).2 ⟨q1, q2⟩) q3
      refine Prod.ext ?_ (Prod.ext ?_ ?_)
      · show s.1 = q.1.fID
        omega
      · show s.2.1 = q.2.fID
        omega
      · exact e1
theorem rClash_eq {f : TFire} (hl : f.fLooks.length < 1000000000) : calxref02_Clash f = some (if CheckS f = 0 then ⟨(ClashS f).1, (ClashS f).2.1, (ClashS f).2.2, 0⟩ else ⟨0, 0, false, CheckS f⟩) := by
  unfold calxref02_Clash
  rw [rCheck_eq f hl, Option.bind_some]
  by_cases hc : CheckS f = 0
  · have ho := CheckS_ok.1 hc
    rw [if_pos hc, hc, rClash_l1 ho, rClash_S ho]
    rfl
  · rw [if_neg hc, if_pos (by simpa using hc)]
theorem ragree_eq {f : TFire} (h : OkF f) : calxref02_agree f = some (agreeS f) := by
  have hlen := h.2.1
  have hin : ∀ i (hi : i < f.fLooks.length), ∃ j, loopO (calxref02_agree_l2 f (false, (i : Int))) (false, 0) = some (if (∃ y ∈ f.fLooks, agS f f.fLooks[i] y = true) then .inl (false, j) else .inr (false, j)) := by
    intro i hi
    have := loop_search (body := calxref02_agree_l2 f (false, (i : Int))) (fun k => (false, (k : Int))) f.fLooks.length (fun k => if agS f f.fLooks[i] (f.fLooks.getD k default) = true then some (Sum.inl (false, (k : Int))) else none) (t0 := .inr (false, (f.fLooks.length : Int))) (fun k hk => by
      have c1 : decide ((k : Int) < ((f.fLooks.length : Nat) : Int)) = true := decide_eq_true (by omega)
      have c2 : (0 : Int) ≤ (k : Int) ∧ (k : Int) < ((f.fLooks.length : Nat) : Int) := by omega
      have c3 : (0 : Int) ≤ (i : Int) ∧ (i : Int) < ((f.fLooks.length : Nat) : Int) := by omega
      unfold calxref02_agree_l2; dsimp only
      simp only [c1, if_true, guardO_pos c2, guardO_pos c3, rdL_nat hk, rdL_nat hi, TLook_eta, ragainst_eq h.1 (h.2.2.1 _ (List.getElem_mem hi)) (h.2.2.1 _ (List.getElem_mem hk)), Option.bind_some, getD_lt hk, w64_succ (show k < 9223372036854775807 by omega)]
      cases agS f f.fLooks[i] f.fLooks[k] <;> rfl) (by
      unfold calxref02_agree_l2; dsimp only
      rw [ite_f (by omega)])
    have h0 : loopO (calxref02_agree_l2 f (false, (i : Int))) (false, 0) = _ := this
    rw [h0]
    rcases findSome_cases (R := fun k => if agS f f.fLooks[i] (f.fLooks.getD k default) = true then some (Sum.inl (false, (k : Int)) : (Bool × Int) ⊕ (Bool × Int)) else none) (n := f.fLooks.length) (.inr (false, (f.fLooks.length : Int))) with ⟨hn, h4⟩ | ⟨j, t, hj, hR, hj', h4⟩
    · refine ⟨f.fLooks.length, ?_⟩
      rw [h4, if_neg]
      rintro ⟨y, hy, ha⟩
      obtain ⟨k, hk, rfl⟩ := List.mem_iff_getElem.1 hy
      have := hn k hk
      rw [getD_lt hk, if_pos ha] at this
      cases this
    · rw [getD_lt hj] at hR
      split at hR
      · rename_i ha
        cases hR
        exact ⟨j, by rw [h4, if_pos ⟨_, List.getElem_mem hj, ha⟩]⟩
      · cases hR
  have := loop_search (body := calxref02_agree_l1 f) (fun k => (false, (k : Int))) f.fLooks.length (fun k => if (∃ y ∈ f.fLooks, agS f (f.fLooks.getD k default) y = true) then some (Sum.inl (false, (k : Int))) else none) (t0 := .inr (false, (f.fLooks.length : Int))) (fun k hk => by
    obtain ⟨j, hj⟩ := hin k hk
    unfold calxref02_agree_l1; dsimp only
    rw [ite_t (by omega), hj, getD_lt hk, Option.bind_some]
    by_cases he : ∃ y ∈ f.fLooks, agS f f.fLooks[k] y = true
    · rw [if_pos he, if_pos he]
    · rw [if_neg he, if_neg he]
      dsimp only
      rw [w64_succ (by omega)]) (by
    unfold calxref02_agree_l1; dsimp only
    rw [ite_f (by omega)])
  have h0 : loopO (calxref02_agree_l1 f) (false, 0) = _ := this
  unfold calxref02_agree
  rw [h0, Option.bind_some]
  unfold agreeS
  rcases findSome_cases (R := fun k => if (∃ y ∈ f.fLooks, agS f (f.fLooks.getD k default) y = true) then some (Sum.inl (false, (k : Int)) : (Bool × Int) ⊕ (Bool × Int)) else none) (n := f.fLooks.length) (.inr (false, (f.fLooks.length : Int))) with ⟨hn, h4⟩ | ⟨j, t, hj, hR, hj', h4⟩
  · rw [h4, decide_eq_true]
    intro x hx y hy
    obtain ⟨k, hk, rfl⟩ := List.mem_iff_getElem.1 hx
    have := hn k hk
    rw [getD_lt hk] at this
    cases ha : agS f f.fLooks[k] y
    · rfl
    · rw [if_pos ⟨y, hy, ha⟩] at this; cases this
  · rw [getD_lt hj] at hR
    split at hR
    · rename_i he
      cases hR
      rw [h4, decide_eq_false]
      intro hall
      obtain ⟨y, hy, ha⟩ := he
      rw [hall _ (List.getElem_mem hj) y hy] at ha
      cases ha
    · cases hR
end Go.Proofs.Ytndajeiecdmhnaa
