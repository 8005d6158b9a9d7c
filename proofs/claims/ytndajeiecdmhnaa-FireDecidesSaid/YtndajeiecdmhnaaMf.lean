/- Plain laws of fire: Rests; a fire with a look more; what a look must show. No program in sight. -/
import Derived.Test.YtndajeiecdmhnaaMa
set_option linter.unusedVariables false
namespace Go.Proofs.Ytndajeiecdmhnaa

/-! ### Rests -/
/-! ### A look more -/
def wiS (f : TFire) (x : TLook) : TFire := ⟨f.fRise, f.fFall, f.fUp, f.fDown, f.fLooks ++ [x]⟩
theorem with_eq {f : TFire} {x : TLook} (hf : f.fLooks.length < 1000000) : fire_with f x = some (wiS f x) := by
  unfold fire_with slices_Clone_calx_api_Look_calx_api_Look
  rw [guardO_pos (by omega), Option.bind_some, guardO_pos (by simp; omega)]
  rfl
theorem wi_len (f : TFire) (x : TLook) : (wiS f x).fLooks.length = f.fLooks.length + 1 := by
  show (f.fLooks ++ [x]).length = _
  simp
def WouldS (f : TFire) (x : TLook) (at_ : TSpot) : TBounds × Int :=
  if spotsS f [at_] = 0 then if CheckS (wiS f x) = 0 then if agreeS (wiS f x) = true then (endsS (wiS f x) at_, 0) else (⟨⟨0, 0⟩, 0, 0⟩, 9) else (⟨⟨0, 0⟩, 0, 0⟩, CheckS (wiS f x)) else (⟨⟨0, 0⟩, 0, 0⟩, spotsS f [at_])
theorem Would_eq {f : TFire} {x : TLook} {at_ : TSpot} (hf : f.fLooks.length < 1000000) (h : CheckS f = 0 → f.fLooks.length ≤ 12) : fire_Would f x at_ = some (WouldS f x at_) := by
  unfold fire_Would WouldS
  rw [spots_eq hf (by simp), Option.bind_some]
  by_cases h0 : spotsS f [at_] = 0
  · have h2 := spotsS_0.1 h0
    have hl := h h2.1
    have hg : (wiS f x).fLooks.length ≤ 13 := by rw [wi_len]; omega
    have hok : CheckS (wiS f x) = 0 → Ok12 (wiS f x) := fun hc => ⟨CheckS_ok.1 hc, hg⟩
    rw [if_neg (by simp [h0]), if_pos h0, with_eq hf, Option.bind_some, Check_eq _ (by omega), Option.bind_some, agreed_eq hok, Option.bind_some]
    by_cases hc : CheckS (wiS f x) = 0
    · rw [if_pos hc, if_pos hc]
      cases ha : agreeS (wiS f x)
      · rfl
      · rw [if_pos rfl, if_neg (by decide), ends_eq (hok hc) (h2.2 at_ (by simp))]
        rfl
    · rw [if_neg hc, if_neg hc, if_pos (by simpa using hc)]
  · rw [if_neg h0, if_pos (by simpa using h0)]
theorem lo_wi (f : TFire) (x : TLook) (p : TSpot) : loS (wiS f x) p = max (loS f p) (lowS f p x) := by
  show (f.fLooks ++ [x]).foldl (fun o y => max o (lowS (wiS f x) p y)) 0 = _
  rw [List.foldl_append]
  rfl
theorem hi_wi (f : TFire) (x : TLook) (p : TSpot) : hiS (wiS f x) p = min (hiS f p) (highS f p x) := by
  show (f.fLooks ++ [x]).foldl (fun o y => min o (highS (wiS f x) p y)) 1500 = _
  rw [List.foldl_append]
  rfl
theorem wi_ok {f : TFire} {x : TLook} (h : CheckS (wiS f x) = 0) : OkF f ∧ OkLook x := by
  have h1 := CheckS_ok.1 h
  have h2 : (wiS f x).fLooks = f.fLooks ++ [x] := rfl
  obtain ⟨a, b, c, d⟩ := h1
  rw [h2] at b c d
  refine ⟨⟨a, by simp at b; omega, fun y hy => c y (by simp [hy]), ?_⟩, c x (by simp)⟩
  rw [List.map_append, List.nodup_append] at d
  exact d.1
/-- The same look with another heat. -/
theorem wi_again {f : TFire} {x y : TLook} (h : CheckS (wiS f x) = 0) (hid : y.fID = x.fID) (hy : OkLook y) : CheckS (wiS f y) = 0 := by
  rw [CheckS_0] at h ⊢
  obtain ⟨a, b, c, d⟩ := h
  have h1 : (wiS f x).fLooks = f.fLooks ++ [x] := rfl
  have h2 : (wiS f y).fLooks = f.fLooks ++ [y] := rfl
  rw [h1] at b c d
  refine ⟨a, by rw [h2]; simp at b ⊢; exact b, fun z hz => ?_, ?_⟩
  · rw [h2] at hz
    rcases List.mem_append.1 hz with hz | hz
    · exact c z (by simp [hz])
    · rw [List.mem_singleton.1 hz]; exact hy
  · rw [h2]
    simp only [List.map_append, List.map_cons, List.map_nil] at d ⊢
    rw [hid]
    exact d
theorem wi_agree {f : TFire} {x : TLook} (ha : agreeS f = true) (hx : OkLook x) (h1 : loS f x.fAt ≤ x.fHeat.fHi) (h2 : x.fHeat.fLo ≤ hiS f x.fAt) : agreeS (wiS f x) = true := by
  unfold agreeS at ha ⊢
  rw [decide_eq_true_eq] at ha ⊢
  have e : (wiS f x).fLooks = f.fLooks ++ [x] := rfl
  have eg : ∀ a b, agS (wiS f x) a b = agS f a b := fun _ _ => rfl
  rw [e]
  intro a ma b mb
  rw [eg]
  rcases List.mem_append.1 ma with ma | ma <;> rcases List.mem_append.1 mb with mb | mb
  · exact ha a ma b mb
  · rw [List.mem_singleton.1 mb]
    have := hiS_ge (at_ := x.fAt) ma
    unfold highS at this
    unfold agS
    rw [decide_eq_false_iff_not]
    omega
  · rw [List.mem_singleton.1 ma]
    have := loS_ge (at_ := x.fAt) mb
    unfold lowS at this
    unfold agS
    rw [decide_eq_false_iff_not]
    omega
  · rw [List.mem_singleton.1 ma, List.mem_singleton.1 mb]
    unfold agS
    rw [decide_eq_false_iff_not, far_self]
    have := hx.2.2.2.2
    omega
theorem CheckS_rg {f : TFire} (h1 : OkSl f) (h2 : f.fLooks.length ≤ 24) : CheckS f = 0 ∨ CheckS f = 1 ∨ CheckS f = 6 := by
  unfold CheckS
  rw [if_pos h1, if_neg (by omega)]
  unfold LooksS
  rcases findSome_cases (R := errL f.fLooks) (n := f.fLooks.length) 0 with ⟨_, h⟩ | ⟨k, t, _, hR, _, h⟩
  · exact .inl h
  · rw [h]
    exact .inr (errL_rg hR)
/-- A look within the ends. -/
theorem Would_in {f : TFire} {x : TLook} {p : TSpot} (h0 : spotsS f [p] = 0) (ha : agreeS f = true) (hc : CheckS (wiS f x) = 0) (h1 : loS f x.fAt ≤ x.fHeat.fHi) (h2 : x.fHeat.fLo ≤ hiS f x.fAt) : WouldS f x p = (endsS (wiS f x) p, 0) := by
  unfold WouldS
  rw [if_pos h0, if_pos hc, if_pos (wi_agree ha (wi_ok hc).2 h1 h2)]
theorem Would_err {f : TFire} {x : TLook} {p : TSpot} (h0 : spotsS f [p] = 0) (hc : CheckS (wiS f x) ≠ 0) : (WouldS f x p).2 = CheckS (wiS f x) := by
  unfold WouldS
  rw [if_pos h0, if_neg hc]
end Go.Proofs.Ytndajeiecdmhnaa
