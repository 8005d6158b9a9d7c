/- The plain law FireChecks. No program in sight. -/
import Derived.Test.YtndajeiecdmhnaaM5
import Derived.KernelRfl
set_option linter.unusedVariables false
namespace Go.Proofs.Ytndajeiecdmhnaa

theorem sanity_true : calxlaw02_sanity = some true := calxlaw02_sanity_le 100 _ (by kernel_rfl)
/-! ### put, again and again -/
/-! ### Comparisons -/
/-! ### Spots; Far -/
theorem Contains_eq {l : List TSpot} (hl : l.length < 1000000) : slices_ContainsFunc_calx_api_Spot_calx_api_Spot l (fun x5 => fire_spots_1 x5) = some (decide (∃ s ∈ l, ¬ OkSpot s)) := by
  unfold slices_ContainsFunc_calx_api_Spot_calx_api_Spot
  rw [IndexSpot_eq (q := fun s => !decide (OkSpot s)) (by omega) (fun x _ => by unfold fire_spots_1; rw [right_eq]; rfl), Option.bind_some]
  refine congrArg some ?_
  rw [Bool.eq_iff_iff, decide_eq_true_eq, decide_eq_true_eq]
  rcases idxI_cases l (fun s => !decide (OkSpot s)) with ⟨h1, h2⟩ | ⟨k, hk, hq, hj, h2⟩
  · rw [h2]
    refine ⟨fun h => by omega, ?_⟩
    rintro ⟨s, hs, hn⟩
    have := h1 s hs
    simp [hn] at this
  · rw [h2]
    exact ⟨fun _ => ⟨l[k], List.getElem_mem hk, by simpa using hq⟩, fun _ => by omega⟩
def spotsS (f : TFire) (l : List TSpot) : Int := if CheckS f = 0 then if ∃ s ∈ l, ¬ OkSpot s then 1 else 0 else CheckS f
theorem spots_eq {f : TFire} {l : List TSpot} (hf : f.fLooks.length < 1000000) (hl : l.length < 1000000) : fire_spots f l = some (spotsS f l) := by
  unfold fire_spots spotsS
  rw [Check_eq f (by omega), Option.bind_some]
  by_cases hc : CheckS f = 0
  · rw [if_pos hc, hc, if_neg (by decide), Contains_eq hl, Option.bind_some]
    by_cases he : ∃ s ∈ l, ¬ OkSpot s
    · rw [if_pos he, if_pos (decide_eq_true he)]
    · rw [if_neg he, if_neg (by rw [decide_eq_false he]; decide)]
  · rw [if_neg hc, if_pos (by simpa using hc)]
theorem spotsS_0 {f : TFire} {l : List TSpot} : spotsS f l = 0 ↔ CheckS f = 0 ∧ ∀ s ∈ l, OkSpot s := by
  unfold spotsS
  by_cases hc : CheckS f = 0
  · rw [if_pos hc]
    by_cases he : ∃ s ∈ l, ¬ OkSpot s
    · rw [if_pos he]
      obtain ⟨s, hs, hn⟩ := he
      exact ⟨fun h => (by cases h), fun h => absurd (h.2 s hs) hn⟩
    · rw [if_neg he]
      exact ⟨fun _ => ⟨hc, fun s hs => Decidable.byContradiction fun hn => he ⟨s, hs, hn⟩⟩, fun _ => rfl⟩
  · rw [if_neg hc]
    exact ⟨fun h => absurd h hc, fun h => absurd h.1 hc⟩
/-! ### CheckClash -/
/-- What 'few' lets in. -/
def few (f : TFire) : Prop := f.fLooks.length ≤ 12 ∨ (24 < f.fLooks.length ∧ f.fLooks.length ≤ 40)
instance (f : TFire) : Decidable (few f) := by unfold few; infer_instance
theorem few_eq (f : TFire) : calxlaw02_few f = some (decide (few f)) := by
  unfold calxlaw02_few
  refine congrArg some ?_
  rw [Bool.eq_iff_iff]
  simp only [Bool.or_eq_true, Bool.and_eq_true, decide_eq_true_eq]
  unfold few
  omega
theorem few_12 {f : TFire} (h : few f) (hc : CheckS f = 0) : Ok12 f := by
  have ho := CheckS_ok.1 hc
  refine ⟨ho, ?_⟩
  have := ho.2.1
  unfold few at h
  omega
end Go.Proofs.Ytndajeiecdmhnaa
