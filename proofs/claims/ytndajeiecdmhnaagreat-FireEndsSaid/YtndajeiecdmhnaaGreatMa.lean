/- Plain laws of fire: Coolest, Hottest, Fits, CheckEnds. No program in sight. -/
import Derived.Test.YtndajeiecdmhnaaGreatM7
set_option linter.unusedVariables false
namespace Go.Proofs.YtndajeiecdmhnaaGreat

/-! ### Lists of spots -/
def ListS (f : TFire) (l : List TSpot) : Int := if CheckS f = 0 then if 24 < l.length then 2 else spotsS f l else CheckS f
def askL (f : TFire) (l : List TSpot) : Int := if ListS f l = 0 then if agreeS f = true then 0 else 9 else ListS f l
/-! ### Fits -/
/-- Heats that spots can have, all at once. -/
def FitQ (f : TFire) (l : List TSpot) (hs : List Int) : Prop := ∀ i, i < l.length → (loS f (l.getD i default) ≤ hs.getD i 0 ∧ hs.getD i 0 ≤ hiS f (l.getD i default)) ∧ ∀ k, k < l.length → hs.getD k 0 ≤ hs.getD i 0 + farS f (l.getD i default) (l.getD k default)
instance (f : TFire) (l : List TSpot) (hs : List Int) : Decidable (FitQ f l hs) := by unfold FitQ; infer_instance
def bad2 (f : TFire) (l : List TSpot) (hs : List Int) (i k : Nat) : Prop := hs.getD i 0 + farS f (l.getD i default) (l.getD k default) < hs.getD k 0 ∨ (l.getD i default = l.getD k default ∧ hs.getD i 0 ≠ hs.getD k 0)
instance (f : TFire) (l : List TSpot) (hs : List Int) (i k : Nat) : Decidable (bad2 f l hs i k) := by unfold bad2; infer_instance
section
variable {f : TFire} {l : List TSpot} {hs : List Int}
end

/-! ### CheckEnds -/
def showsQ (f : TFire) (t : TLook → Int) (id end_ none_ : Int) : Prop := (id = 0 ∧ end_ = none_) ∨ ∃ x ∈ f.fLooks, x.fID = id ∧ t x = end_
instance (f : TFire) (t : TLook → Int) (id end_ none_ : Int) : Decidable (showsQ f t id end_ none_) := by unfold showsQ; infer_instance
def CheckEndsS (f : TFire) (at_ : TSpot) (b : TBounds) : Int :=
  if askS f [at_] = 0 then if b.fSpan = ⟨loS f at_, hiS f at_⟩ ∧ showsQ f (lowS f at_) b.fLow b.fSpan.fLo 0 ∧ showsQ f (highS f at_) b.fHigh b.fSpan.fHi 1500 then 0 else 8 else askS f [at_]
theorem shows_eq {f : TFire} (h : OkF f) {tell : TLook → Option Int} {t : TLook → Int} (ht : ∀ x ∈ f.fLooks, tell x = some (t x)) (id end_ none_ : Int) : fire_CheckEnds_1 id end_ none_ tell f = some (decide (showsQ f t id end_ none_)) := by
  have hlen := h.2.1
  unfold fire_CheckEnds_1
  rw [find_eq (by omega), Option.bind_some]
  by_cases h0 : id = 0 ∧ end_ = none_
  · rw [if_pos (by simp [h0])]
    have : showsQ f t id end_ none_ := .inl h0
    rw [decide_eq_true this]
    rfl
  · rw [if_neg (by simpa using h0)]
    rcases idxI_cases f.fLooks (fun x => x.fID == id) with ⟨h1, h2⟩ | ⟨k, hk, hq, hj, h2⟩
    · rw [h2, ite_f (by decide)]
      have : ¬ showsQ f t id end_ none_ := by
        rintro (hc | ⟨x, hx, e1, e2⟩)
        · exact h0 hc
        · have := h1 x hx
          simp [e1] at this
      rw [decide_eq_false this]
      rfl
    · rw [h2, ite_t (by omega), guardO_pos (by omega), rdL_nat hk, TLook_eta, ht _ (List.getElem_mem hk)]
      dsimp only [Option.bind_some]
      refine congrArg some ?_
      rw [Bool.eq_iff_iff, beq_iff_eq, decide_eq_true_eq]
      constructor
      · intro he
        exact .inr ⟨_, List.getElem_mem hk, by simpa using hq, he⟩
      · rintro (hc | ⟨x, hx, e1, e2⟩)
        · exact absurd hc h0
        · have hd := h.2.2.2
          have : x = f.fLooks[k] := by
            obtain ⟨i, hi, rfl⟩ := List.mem_iff_getElem.1 hx
            rw [List.nodup_iff_pairwise_ne, List.pairwise_iff_getElem] at hd
            have hqk : f.fLooks[k].fID = id := by simpa using hq
            rcases Nat.lt_trichotomy i k with h' | h' | h'
            · exact absurd (by rw [List.getElem_map, List.getElem_map, e1, hqk]) (hd i k (by simp; omega) (by simp; omega) h')
            · subst h'; rfl
            · exact absurd (by rw [List.getElem_map, List.getElem_map, e1, hqk]) (hd k i (by simp; omega) (by simp; omega) h')
          rw [← this]
          exact e2
theorem span_ext {p q : TSpan} : ((p.fLo == q.fLo) && (p.fHi == q.fHi)) = decide (p = q) := by
  rw [Bool.eq_iff_iff, decide_eq_true_eq, Bool.and_eq_true, beq_iff_eq, beq_iff_eq]
  cases p; cases q
  simp
theorem CheckEnds_eq {f : TFire} {at_ : TSpot} {b : TBounds} (hf : f.fLooks.length < 1000000) (h : CheckS f = 0 → Ok12 f) : fire_CheckEnds f at_ b = some (CheckEndsS f at_ b) := by
  unfold fire_CheckEnds CheckEndsS fire_low fire_high
  have h1 := ask_eq (l := [at_]) hf (by simp) h
  rw [spots_eq hf (by simp), Option.bind_some] at h1 ⊢
  rw [h1, Option.bind_some]
  by_cases h0 : askS f [at_] = 0
  · have h2 := askS_0.1 h0
    have ha := h2.2.1 at_ (by simp)
    have h12 := h h2.1
    rw [if_pos h0, h0, if_neg (by decide), ends_eq h12 ha, Option.bind_some, span_ext]
    have ee : (endsS f at_).fSpan = ⟨loS f at_, hiS f at_⟩ := rfl
    rw [ee]
    by_cases hs : b.fSpan = ⟨loS f at_, hiS f at_⟩
    · rw [if_neg (by simp [hs]), Option.bind_some, shows_eq h12.1 (t := lowS f at_) (fun x hx => low1_eq h12.1.1 ha (h12.1.2.2.1 x hx)), Option.bind_some]
      by_cases hlo : showsQ f (lowS f at_) b.fLow b.fSpan.fLo 0
      · rw [if_neg (by simp [hlo]), Option.bind_some, shows_eq h12.1 (t := highS f at_) (fun x hx => high1_eq h12.1.1 ha (h12.1.2.2.1 x hx)), Option.bind_some]
        by_cases hhi : showsQ f (highS f at_) b.fHigh b.fSpan.fHi 1500
        · rw [if_neg (by simp [hhi]), if_pos ⟨hs, hlo, hhi⟩]
        · rw [if_pos (by simp [hhi]), if_neg (fun hc => hhi hc.2.2)]
      · rw [if_pos (by simp [hlo]), if_neg (fun hc => hlo hc.2.1)]
    · rw [if_pos (by simp; exact fun hc => hs hc.symm), if_neg (fun hc => hs hc.1)]
  · rw [if_neg h0, if_pos (by simpa using h0)]
/-! ### The ends as a field -/
section
variable {f : TFire}
end
end Go.Proofs.YtndajeiecdmhnaaGreat
