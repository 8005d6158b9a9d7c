/- Plain laws of fire: Clash; looks that agree; a fire without some looks; Suspects. No program in sight. -/
import Derived.Test.YtndajeiecdmhnaaGreatM3
set_option linter.unusedVariables false
namespace Go.Proofs.YtndajeiecdmhnaaGreat

/-! ### More on loops -/
def outO {S T : Type} (s0 : S) (o : Option T) : S ⊕ T := match o with | none => .inl s0 | some t => .inr t
theorem foldO_search {S T α : Type} {f : S → α → Option (S ⊕ T)} (s0 : S) (R : α → Option T) : ∀ (l : List α), (∀ x ∈ l, f s0 x = some (outO s0 (R x))) → foldO f l s0 = some (outO s0 (l.findSome? R))
  | [], _ => rfl
  | x :: l, h => by
    unfold foldO
    rw [h x (by simp)]
    cases hR : R x with
    | none =>
      show foldO f l s0 = _
      rw [foldO_search s0 R l (fun y hy => h y (by simp [hy]))]
      simp [hR]
    | some t => simp [hR, outO]
theorem foldO_fold {S T α : Type} {f : S → α → Option (S ⊕ T)} (g : S → α → S) (Q : S → Prop) : ∀ (l : List α) (s0 : S), Q s0 → (∀ s x, x ∈ l → Q s → f s x = some (.inl (g s x)) ∧ Q (g s x)) → foldO f l s0 = some (.inl (l.foldl g s0)) ∧ Q (l.foldl g s0)
  | [], s0, h0, _ => ⟨rfl, h0⟩
  | x :: l, s0, h0, h => by
    obtain ⟨h1, h2⟩ := h s0 x (by simp) h0
    unfold foldO
    rw [h1]
    exact foldO_fold g Q l (g s0 x) h2 (fun s y hy hs => h s y (by simp [hy]) hs)
theorem findSome_map {α β γ : Type} (R : α → Option β) (g : β → γ) : ∀ l : List α, l.findSome? (fun x => (R x).map g) = (l.findSome? R).map g
  | [] => rfl
  | x :: l => by
    rw [List.findSome?_cons, List.findSome?_cons, findSome_map R g l]
    cases R x <;> rfl
theorem loop_foldl {S T α σ : Type} [Inhabited α] {body : S → Option (S ⊕ T)} (l : List α) (st : Nat → σ → S) (g : σ → α → σ) (s0 : σ) (fin : σ → T) (Q : Nat → σ → Prop) (h0 : Q 0 s0)
    (h : ∀ (k : Nat) (s : σ) (hk : k < l.length), Q k s → body (st k s) = some (.inl (st (k + 1) (g s l[k]))) ∧ Q (k + 1) (g s l[k])) (hs : ∀ s, Q l.length s → body (st l.length s) = some (.inr (fin s))) :
    loopO body (st 0 s0) = some (fin (l.foldl g s0)) ∧ Q l.length (l.foldl g s0) := by
  have hQ : ∀ k, k ≤ l.length → Q k ((l.take k).foldl g s0) := by
    intro k
    induction k with
    | zero => intro _; exact h0
    | succ k ih =>
      intro hk
      rw [List.take_succ_eq_append_getElem (by omega), List.foldl_append]
      exact (h k _ (by omega) (ih (by omega))).2
  have := loop_run (body := body) (fun k => st k ((l.take k).foldl g s0)) l.length (t := fin (l.foldl g s0)) (fun k hk => by
    rw [(h k _ hk (hQ k (by omega))).1, List.take_succ_eq_append_getElem hk, List.foldl_append]
    rfl) (by
    have h1 := hQ l.length (Nat.le_refl _)
    rw [List.take_length] at h1 ⊢
    exact hs _ h1)
  refine ⟨this, ?_⟩
  have h1 := hQ l.length (Nat.le_refl _)
  rw [List.take_length] at h1
  exact h1

/-! ### Clash -/
/-- The first pair of looks, by their IDs, that contradict each other. -/
def clS (f : TFire) : Option (TLook × TLook) := (srt f.fLooks).findSome? fun x => (srt f.fLooks).findSome? fun y => if agS f x y = true then some (x, y) else none
def agreeS (f : TFire) : Bool := decide (∀ x ∈ f.fLooks, ∀ y ∈ f.fLooks, agS f x y = false)
theorem clS_none {f : TFire} : clS f = none ↔ agreeS f = true := by
  unfold clS agreeS
  rw [List.findSome?_eq_none_iff, decide_eq_true_eq]
  constructor
  · intro h x hx y hy
    have := List.findSome?_eq_none_iff.1 (h x (srt_mem.2 hx)) y (srt_mem.2 hy)
    cases ha : agS f x y
    · rfl
    · rw [ha] at this; simp at this
  · intro h x hx
    rw [List.findSome?_eq_none_iff]
    intro y hy
    rw [h x (srt_mem.1 hx) y (srt_mem.1 hy)]
    simp
def zL : TLook := ⟨0, ⟨0, 0⟩, ⟨0, 0⟩⟩
theorem clash_eq {f : TFire} (h : Ok12 f) : fire_clash f = some (match clS f with | none => (zL, zL, false) | some p => (p.1, p.2, true)) := by
  have hS := sorted_eq h
  have hok := h.1.2.2.1
  have hsl := h.1.1
  have hlen : seqLook_ok (srt f.fLooks) := seqLook_of h.1.2.1
  let tup : TLook × TLook → Int × Int × Int × Int × Int × Int × Int × Int × Int × Int × Bool := fun p => (p.1.fID, p.1.fAt.fFoot, p.1.fAt.fHour, p.1.fHeat.fLo, p.1.fHeat.fHi, p.2.fID, p.2.fAt.fFoot, p.2.fAt.fHour, p.2.fHeat.fLo, p.2.fHeat.fHi, true)
  have hin : ∀ x ∈ srt f.fLooks, foldO (fire_clash_r2 f x) (seqLook (srt f.fLooks)) (0, 0, 0, 0, 0, 0, 0, 0, 0, 0, false) = some (outO (0, 0, 0, 0, 0, 0, 0, 0, 0, 0, false) ((srt f.fLooks).findSome? (fun y => (if agS f x y = true then some (x, y) else none).map tup))) := by
    intro x hx
    refine foldO_search _ _ _ (fun y hy => ?_)
    unfold fire_clash_r2
    rw [against_eq hsl (hok x (srt_mem.1 hx)) (hok y (srt_mem.1 hy)), Option.bind_some]
    cases agS f x y <;> rfl
  have hout : foldO (fire_clash_r1 f) (seqLook (srt f.fLooks)) (0, 0, 0, 0, 0, 0, 0, 0, 0, 0, false) = some (outO (0, 0, 0, 0, 0, 0, 0, 0, 0, 0, false) ((srt f.fLooks).findSome? (fun x => ((srt f.fLooks).findSome? (fun y => (if agS f x y = true then some (x, y) else none))).map tup))) := by
    refine foldO_search _ _ _ (fun x hx => ?_)
    unfold fire_clash_r1
    rw [hS, Option.bind_some, guardO_pos hlen]
    dsimp only
    rw [hin x hx, findSome_map]
    cases (srt f.fLooks).findSome? (fun y => (if agS f x y = true then some (x, y) else none)) <;> rfl
  unfold fire_clash
  rw [hS, Option.bind_some, guardO_pos hlen, hout, findSome_map]
  show _ = some (match clS f with | none => (zL, zL, false) | some p => (p.1, p.2, true))
  unfold clS
  cases (srt f.fLooks).findSome? (fun x => (srt f.fLooks).findSome? (fun y => (if agS f x y = true then some (x, y) else none))) <;> rfl
theorem agree_eq {f : TFire} (h : Ok12 f) : fire_agree f = some (agreeS f) := by
  unfold fire_agree
  rw [clash_eq h]
  have := @clS_none f
  cases hc : clS f with
  | none => rw [hc] at this; rw [this.1 rfl]; rfl
  | some p =>
    rw [hc] at this
    cases ha : agreeS f
    · rfl
    · have := this.2 ha; cases this
/-- What Clash tells. -/
def ClashS (f : TFire) : Int × Int × Bool := match clS f with | none => (0, 0, false) | some p => (p.1.fID, p.2.fID, true)
theorem ragree_eq {f : TFire} (h : OkF f) : ref02_agree f = some (agreeS f) := by
  have hlen := h.2.1
  have hin : ∀ i (hi : i < f.fLooks.length), ∃ j, loopO (ref02_agree_l2 f (false, (i : Int))) (false, 0) = some (if (∃ y ∈ f.fLooks, agS f f.fLooks[i] y = true) then .inl (false, j) else .inr (false, j)) := by
    intro i hi
    have := loop_search (body := ref02_agree_l2 f (false, (i : Int))) (fun k => (false, (k : Int))) f.fLooks.length (fun k => if agS f f.fLooks[i] (f.fLooks.getD k default) = true then some (Sum.inl (false, (k : Int))) else none) (t0 := .inr (false, (f.fLooks.length : Int))) (fun k hk => by
      have c1 : decide ((k : Int) < ((f.fLooks.length : Nat) : Int)) = true := decide_eq_true (by omega)
      have c2 : (0 : Int) ≤ (k : Int) ∧ (k : Int) < ((f.fLooks.length : Nat) : Int) := by omega
      have c3 : (0 : Int) ≤ (i : Int) ∧ (i : Int) < ((f.fLooks.length : Nat) : Int) := by omega
      unfold ref02_agree_l2; dsimp only
      simp only [c1, if_true, guardO_pos c2, guardO_pos c3, rdL_nat hk, rdL_nat hi, TLook_eta, ragainst_eq h.1 (h.2.2.1 _ (List.getElem_mem hi)) (h.2.2.1 _ (List.getElem_mem hk)), Option.bind_some, getD_lt hk, w64_succ (show k < 9223372036854775807 by omega)]
      cases agS f f.fLooks[i] f.fLooks[k] <;> rfl) (by
      unfold ref02_agree_l2; dsimp only
      rw [ite_f (by omega)])
    have h0 : loopO (ref02_agree_l2 f (false, (i : Int))) (false, 0) = _ := this
    rw [h0]
    rcases findSome_cases (R := fun k => if agS f f.fLooks[i] (f.fLooks.getD k default) = true then some (Sum.inl (false, (k : Int)) : (Bool × Int) ⊕ (Bool × Int)) else none) (n := f.fLooks.length) (.inr (false, (f.fLooks.length : Int))) with ⟨hn, h4⟩ | ⟨j, t, hj, hR, hj', h4⟩
    · refine ⟨f.fLooks.length, ?_⟩
      rw [h4, if_neg]
      rintro ⟨y, hy, ha⟩
      obtain ⟨k, hk, rfl⟩ := List.mem_iff_getElem.1 hy
      have := hn k hk
      rw [getD_lt hk, if_pos ha] at this
      cases this
    · rw [getD_lt hj] at hR
      split at hR
      · rename_i ha
        cases hR
        exact ⟨j, by rw [h4, if_pos ⟨_, List.getElem_mem hj, ha⟩]⟩
      · cases hR
  have := loop_search (body := ref02_agree_l1 f) (fun k => (false, (k : Int))) f.fLooks.length (fun k => if (∃ y ∈ f.fLooks, agS f (f.fLooks.getD k default) y = true) then some (Sum.inl (false, (k : Int))) else none) (t0 := .inr (false, (f.fLooks.length : Int))) (fun k hk => by
    obtain ⟨j, hj⟩ := hin k hk
    unfold ref02_agree_l1; dsimp only
    rw [ite_t (by omega), hj, getD_lt hk, Option.bind_some]
    by_cases he : ∃ y ∈ f.fLooks, agS f f.fLooks[k] y = true
    · rw [if_pos he, if_pos he]
    · rw [if_neg he, if_neg he]
      dsimp only
      rw [w64_succ (by omega)]) (by
    unfold ref02_agree_l1; dsimp only
    rw [ite_f (by omega)])
  have h0 : loopO (ref02_agree_l1 f) (false, 0) = _ := this
  unfold ref02_agree
  rw [h0, Option.bind_some]
  unfold agreeS
  rcases findSome_cases (R := fun k => if (∃ y ∈ f.fLooks, agS f (f.fLooks.getD k default) y = true) then some (Sum.inl (false, (k : Int)) : (Bool × Int) ⊕ (Bool × Int)) else none) (n := f.fLooks.length) (.inr (false, (f.fLooks.length : Int))) with ⟨hn, h4⟩ | ⟨j, t, hj, hR, hj', h4⟩
  · rw [h4, decide_eq_true]
    intro x hx y hy
    obtain ⟨k, hk, rfl⟩ := List.mem_iff_getElem.1 hx
    have := hn k hk
    rw [getD_lt hk] at this
    cases ha : agS f f.fLooks[k] y
    · rfl
    · rw [if_pos ⟨y, hy, ha⟩] at this; cases this
  · rw [getD_lt hj] at hR
    split at hR
    · rename_i he
      cases hR
      rw [h4, decide_eq_false]
      intro hall
      obtain ⟨y, hy, ha⟩ := he
      rw [hall _ (List.getElem_mem hj) y hy] at ha
      cases ha
    · cases hR
end Go.Proofs.YtndajeiecdmhnaaGreat
