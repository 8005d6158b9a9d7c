/- Plain laws of fire: Clash; looks that agree; a fire without some looks; Suspects. No program in sight. -/
import Derived.Test.YtndajeiecdmhnaaM3
set_option linter.unusedVariables false
namespace Go.Proofs.Ytndajeiecdmhnaa

/-! ### More on loops -/
def outO {S T : Type} (s0 : S) (o : Option T) : S ⊕ T := match o with | none => .inl s0 | some t => .inr t
theorem foldO_search {S T α : Type} {f : S → α → Option (S ⊕ T)} (s0 : S) (R : α → Option T) : ∀ (l : List α), (∀ x ∈ l, f s0 x = some (outO s0 (R x))) → foldO f l s0 = some (outO s0 (l.findSome? R))
  | [], _ => rfl
  | x :: l, h => by
    unfold foldO
    rw [h x (by simp)]
    cases hR : R x with
    | none =>
      show foldO f l s0 = _
      rw [foldO_search s0 R l (fun y hy => h y (by simp [hy]))]
      simp [hR]
    | some t => simp [hR, outO]
theorem foldO_fold {S T α : Type} {f : S → α → Option (S ⊕ T)} (g : S → α → S) (Q : S → Prop) : ∀ (l : List α) (s0 : S), Q s0 → (∀ s x, x ∈ l → Q s → f s x = some (.inl (g s x)) ∧ Q (g s x)) → foldO f l s0 = some (.inl (l.foldl g s0)) ∧ Q (l.foldl g s0)
  | [], s0, h0, _ => ⟨rfl, h0⟩
  | x :: l, s0, h0, h => by
    obtain ⟨h1, h2⟩ := h s0 x (by simp) h0
    unfold foldO
    rw [h1]
    exact foldO_fold g Q l (g s0 x) h2 (fun s y hy hs => h s y (by simp [hy]) hs)
theorem findSome_map {α β γ : Type} (R : α → Option β) (g : β → γ) : ∀ l : List α, l.findSome? (fun x => (R x).map g) = (l.findSome? R).map g
  | [] => rfl
  | x :: l => by
    rw [List.findSome?_cons, List.findSome?_cons, findSome_map R g l]
    cases R x <;> rfl
/-! ### Clash -/
/-- The first pair of looks, by their IDs, that contradict each other. -/
def clS (f : TFire) : Option (TLook × TLook) := (srt f.fLooks).findSome? fun x => (srt f.fLooks).findSome? fun y => if agS f x y = true then some (x, y) else none
def agreeS (f : TFire) : Bool := decide (∀ x ∈ f.fLooks, ∀ y ∈ f.fLooks, agS f x y = false)
theorem clS_none {f : TFire} : clS f = none ↔ agreeS f = true := by
  unfold clS agreeS
  rw [List.findSome?_eq_none_iff, decide_eq_true_eq]
  constructor
  · intro h x hx y hy
    have := List.findSome?_eq_none_iff.1 (h x (srt_mem.2 hx)) y (srt_mem.2 hy)
    cases ha : agS f x y
    · rfl
    · rw [ha] at this; simp at this
  · intro h x hx
    rw [List.findSome?_eq_none_iff]
    intro y hy
    rw [h x (srt_mem.1 hx) y (srt_mem.1 hy)]
    simp
def zL : TLook := ⟨0, ⟨0, 0⟩, ⟨0, 0⟩⟩
theorem clash_eq {f : TFire} (h : Ok12 f) : fire_clash f = some (match clS f with | none => (zL, zL, false) | some p => (p.1, p.2, true)) := by
  have hS := sorted_eq h
  have hok := h.1.2.2.1
  have hsl := h.1.1
  have hlen : seqLook_ok (srt f.fLooks) := seqLook_of h.1.2.1
  let tup : TLook × TLook → Int × Int × Int × Int × Int × Int × Int × Int × Int × Int × Bool := fun p => (p.1.fID, p.1.fAt.fFoot, p.1.fAt.fHour, p.1.fHeat.fLo, p.1.fHeat.fHi, p.2.fID, p.2.fAt.fFoot, p.2.fAt.fHour, p.2.fHeat.fLo, p.2.fHeat.fHi, true)
  have hin : ∀ x ∈ srt f.fLooks, foldO (fire_clash_r2 f x) (seqLook (srt f.fLooks)) (0, 0, 0, 0, 0, 0, 0, 0, 0, 0, false) = some (outO (0, 0, 0, 0, 0, 0, 0, 0, 0, 0, false) ((srt f.fLooks).findSome? (fun y => (if agS f x y = true then some (x, y) else none).map tup))) := by
    intro x hx
    refine foldO_search _ _ _ (fun y hy => ?_)
    unfold fire_clash_r2
    rw [against_eq hsl (hok x (srt_mem.1 hx)) (hok y (srt_mem.1 hy)), Option.bind_some]
    cases agS f x y <;> rfl
  have hout : foldO (fire_clash_r1 f) (seqLook (srt f.fLooks)) (0, 0, 0, 0, 0, 0, 0, 0, 0, 0, false) = some (outO (0, 0, 0, 0, 0, 0, 0, 0, 0, 0, false) ((srt f.fLooks).findSome? (fun x => ((srt f.fLooks).findSome? (fun y => (if agS f x y = true then some (x, y) else none))).map tup))) := by
    refine foldO_search _ _ _ (fun x hx => ?_)
    unfold fire_clash_r1
    rw [hS, Option.bind_some, guardO_pos hlen]
    dsimp only
    rw [hin x hx, findSome_map]
    cases (srt f.fLooks).findSome? (fun y => (if agS f x y = true then some (x, y) else none)) <;> rfl
  unfold fire_clash
  rw [hS, Option.bind_some, guardO_pos hlen, hout, findSome_map]
  show _ = some (match clS f with | none => (zL, zL, false) | some p => (p.1, p.2, true))
  unfold clS
  cases (srt f.fLooks).findSome? (fun x => (srt f.fLooks).findSome? (fun y => (if agS f x y = true then some (x, y) else none))) <;> rfl
theorem agree_eq {f : TFire} (h : Ok12 f) : fire_agree f = some (agreeS f) := by
  unfold fire_agree
  rw [clash_eq h]
  have := @clS_none f
  cases hc : clS f with
  | none => rw [hc] at this; rw [this.1 rfl]; rfl
  | some p =>
    rw [hc] at this
    cases ha : agreeS f
    · rfl
    · have := this.2 ha; cases this
/-- What Clash tells. -/
def ClashS (f : TFire) : Int × Int × Bool := match clS f with | none => (0, 0, false) | some p => (p.1.fID, p.2.fID, true)
end Go.Proofs.Ytndajeiecdmhnaa
