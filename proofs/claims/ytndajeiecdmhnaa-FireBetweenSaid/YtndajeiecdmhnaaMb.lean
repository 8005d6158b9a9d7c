/- The plain law FireBetween. No program in sight. -/
import Derived.Test.YtndajeiecdmhnaaMa
set_option linter.unusedVariables false
namespace Go.Proofs.Ytndajeiecdmhnaa

def shortQ (l : List TSpot) : Prop := l.length ≤ 12 ∨ (24 < l.length ∧ l.length ≤ 40)
instance (l : List TSpot) : Decidable (shortQ l) := by unfold shortQ; infer_instance
theorem short_eq (l : List TSpot) : calxlaw02_short l = some (decide (shortQ l)) := by
  unfold calxlaw02_short
  refine congrArg some ?_
  rw [Bool.eq_iff_iff]
  simp only [Bool.or_eq_true, Bool.and_eq_true, decide_eq_true_eq]
  unfold shortQ
  omega
section
variable {f : TFire} {l : List TSpot}
theorem getD_map (g : TSpot → Int) {k : Nat} (hk : k < l.length) : (l.map g).getD k 0 = g (l.getD k default) := by
  rw [getD0 (by rw [List.length_map]; exact hk), List.getElem_map, getD_lt hk]
theorem lo_fits (h : OkF f) (ha : agreeS f = true) (ho : ∀ s ∈ l, OkSpot s) (hL : ListS f l = 0) : FitsS f l (l.map (loS f)) = (true, 0) := by
  have hq : FitQ f l (l.map (loS f)) := fun i hi => by
    have hi' := ho _ (List.getElem_mem hi)
    rw [getD_map _ hi, getD_lt hi]
    refine ⟨⟨Int.le_refl _, lo_hi h ha hi'⟩, fun k hk => ?_⟩
    rw [getD_map _ hk, getD_lt hk]
    exact lo_lip h hi' (ho _ (List.getElem_mem hk))
  have hh : (l.map (loS f)).length = l.length ∧ ∀ n ∈ l.map (loS f), OkHeat n := by
    refine ⟨List.length_map _, fun n hn => ?_⟩
    obtain ⟨s, hs, rfl⟩ := List.mem_map.1 hn
    have hs' := ho s hs
    refine ⟨loS_le f s, ?_⟩
    rcases loS_at f s with h1 | ⟨x, hx, h1⟩
    · omega
    · have := low_rg h.1 hs' (h.2.2.1 x hx); omega
  unfold FitsS
  rw [if_pos hL, if_pos hh, if_pos ha, decide_eq_true hq]
theorem hi_fits (h : OkF f) (ha : agreeS f = true) (ho : ∀ s ∈ l, OkSpot s) (hL : ListS f l = 0) : FitsS f l (l.map (hiS f)) = (true, 0) := by
  have hq : FitQ f l (l.map (hiS f)) := fun i hi => by
    have hi' := ho _ (List.getElem_mem hi)
    rw [getD_map _ hi, getD_lt hi]
    refine ⟨⟨lo_hi h ha hi', Int.le_refl _⟩, fun k hk => ?_⟩
    rw [getD_map _ hk, getD_lt hk]
    exact hi_lip h hi' (ho _ (List.getElem_mem hk))
  have hh : (l.map (hiS f)).length = l.length ∧ ∀ n ∈ l.map (hiS f), OkHeat n := by
    refine ⟨List.length_map _, fun n hn => ?_⟩
    obtain ⟨s, hs, rfl⟩ := List.mem_map.1 hn
    have hs' := ho s hs
    refine ⟨?_, hiS_le f s⟩
    rcases hiS_at f s with h1 | ⟨x, hx, h1⟩
    · omega
    · have := high_rg h.1 hs' (h.2.2.1 x hx); omega
  unfold FitsS
  rw [if_pos hL, if_pos hh, if_pos ha, decide_eq_true hq]
end
theorem fits_in {f : TFire} {l : List TSpot} {hs : List Int} (h : ((FitsS f l hs).2 == 0 && (FitsS f l hs).1) = true) : hs.length = l.length ∧ (∀ n ∈ hs, OkHeat n) ∧ FitQ f l hs := by
  unfold FitsS at h
  by_cases h0 : ListS f l = 0
  · rw [if_pos h0] at h
    by_cases h1 : hs.length = l.length ∧ ∀ n ∈ hs, OkHeat n
    · rw [if_pos h1] at h
      by_cases h2 : agreeS f = true
      · rw [if_pos h2] at h
        simp at h
        exact ⟨h1.1, h1.2, h⟩
      · rw [if_neg h2] at h
        simp at h
    · rw [if_neg h1] at h
      simp at h
  · rw [if_neg h0] at h
    simp at h
theorem FireBetween_true (p0 : TFire) (p1 : List TSpot) (p2 : List Int) (h0 : TFire_rg p0) (h1 : Rg_list TSpot_rg p1) (h2 : Rg_list Rg_i64 p2) : calxlaw02_FireBetween p0 p1 p2 = some true := by
  unfold calxlaw02_FireBetween
  rw [few_eq, Option.bind_some, sanity_true, short_eq]
  by_cases hf : few p0
  · have hl := few_len hf
    rw [if_neg (by simp [hf])]
    by_cases hp : shortQ p1
    · have hpl : p1.length ≤ 40 := by unfold shortQ at hp; omega
      rw [decide_eq_true hp]
      dsimp only [Option.bind_some]
      by_cases h40 : 40 < p2.length
      · rw [if_pos (by simp; omega)]
      · rw [if_neg (by simp; omega), Coolest_eq (by omega) (by omega) (few_12 hf), Hottest_eq (by omega) (by omega) (few_12 hf)]
        dsimp only [Option.bind_some]
        by_cases hA : askL p0 p1 = 0
        · obtain ⟨hL, hag⟩ := askL_0.1 hA
          obtain ⟨hc, _, ho⟩ := ListS_0.1 hL
          have h12 := few_12 hf hc
          have hok := h12.1
          rw [if_pos hA, if_pos hA, if_neg (by simp), if_neg (by simp)]
          dsimp only
          rw [Fits_eq (by omega) (by omega) (by rw [List.length_map]; omega) (few_12 hf), Fits_eq (by omega) (by omega) (by rw [List.length_map]; omega) (few_12 hf), Fits_eq (by omega) (by omega) (by omega) (few_12 hf), lo_fits hok hag ho hL, hi_fits hok hag ho hL]
          dsimp only [Option.bind_some]
          rw [if_neg (by simp)]
          have hrun := loop_run (body := calxlaw02_FireBetween_l1 p0 p1 p2 (p1.map (loS p0), 0) (p1.map (hiS p0), 0) (FitsS p0 p1 p2)) (fun k => (false, (k : Int))) p1.length (t := .inr (false, (p1.length : Int))) (fun k hk => by
            have hk' := ho _ (List.getElem_mem hk)
            have c2 : (0 : Int) ≤ (k : Int) ∧ (k : Int) < ((p1.length : Nat) : Int) := by omega
            have c3 : (0 : Int) ≤ (k : Int) ∧ (k : Int) < (((p1.map (loS p0)).length : Nat) : Int) := by rw [List.length_map]; omega
            have c4 : (0 : Int) ≤ (k : Int) ∧ (k : Int) < (((p1.map (hiS p0)).length : Nat) : Int) := by rw [List.length_map]; omega
            have hask : askS p0 [p1[k]] = 0 := askS_0.2 ⟨hc, by intro s hs; rw [List.mem_singleton.1 hs]; exact hk', hag⟩
            have hE : EndsS p0 p1[k] = (endsS p0 p1[k], 0) := by unfold EndsS; rw [if_pos hask]
            have e1 : rdL (p1.map (loS p0)) (k : Int) = loS p0 p1[k] := by rw [rdL_nat (by rw [List.length_map]; exact hk), List.getElem_map]
            have e2 : rdL (p1.map (hiS p0)) (k : Int) = hiS p0 p1[k] := by rw [rdL_nat (by rw [List.length_map]; exact hk), List.getElem_map]
            have ee : endsS p0 p1[k] = ⟨⟨loS p0 p1[k], hiS p0 p1[k]⟩, (endsS p0 p1[k]).fLow, (endsS p0 p1[k]).fHigh⟩ := rfl
            have hlh := lo_hi hok hag hk'
            have hin : loopO (calxlaw02_FireBetween_l2 p0 p1 (p1.map (loS p0), 0) (p1.map (hiS p0), 0) (false, (k : Int))) (false, 0) = some (.inr (false, (p1.length : Int))) := by
              have := loop_run (body := calxlaw02_FireBetween_l2 p0 p1 (p1.map (loS p0), 0) (p1.map (hiS p0), 0) (false, (k : Int))) (fun n => (false, (n : Int))) p1.length (t := .inr (false, (p1.length : Int))) (fun n hn => by
                have hn' := ho _ (List.getElem_mem hn)
                have d2 : (0 : Int) ≤ (n : Int) ∧ (n : Int) < ((p1.length : Nat) : Int) := by omega
                have d3 : (0 : Int) ≤ (n : Int) ∧ (n : Int) < (((p1.map (loS p0)).length : Nat) : Int) := by rw [List.length_map]; omega
                have d4 : (0 : Int) ≤ (n : Int) ∧ (n : Int) < (((p1.map (hiS p0)).length : Nat) : Int) := by rw [List.length_map]; omega
                have f1 : rdL (p1.map (loS p0)) (n : Int) = loS p0 p1[n] := by rw [rdL_nat (by rw [List.length_map]; exact hn), List.getElem_map]
                have f2 : rdL (p1.map (hiS p0)) (n : Int) = hiS p0 p1[n] := by rw [rdL_nat (by rw [List.length_map]; exact hn), List.getElem_map]
                have hsp : spotsS p0 [p1[n], p1[k]] = 0 := spotsS_0.2 ⟨hc, by intro s hs; simp at hs; rcases hs with rfl | rfl; exact hn'; exact hk'⟩
                have hF : FarS p0 p1[n] p1[k] = (farS p0 p1[n] p1[k], 0) := by unfold FarS; rw [if_pos hsp]
                have l1 := lo_lip hok hn' hk'
                have l2 := hi_lip hok hn' hk'
                have hr := far_rg hok.1 hn' hk'
                have r1 := loS_le p0 p1[n]
                have r2 := hiS_le p0 p1[n]
                have r3 := lo_hi hok hag hn'
                unfold calxlaw02_FireBetween_l2; dsimp only
                rw [ite_t (by omega), guardO_pos d2, guardO_pos c2, rdL_nat hn, rdL_nat hk, TSpot_eta, TSpot_eta, Far_eq (by omega), hF]
                dsimp only [Option.bind_some]
                rw [if_neg (by simp), guardO_pos c3, guardO_pos d3, f1, e1, w64_id (by omega) (by omega)]
                dsimp only [Option.bind_some]
                rw [ite_f (by omega), guardO_pos c4, guardO_pos d4, f2, e2, w64_id (by omega) (by omega)]
                dsimp only [Option.bind_some]
                rw [ite_f (by omega), w64_succ (by omega)]) (by
                unfold calxlaw02_FireBetween_l2; dsimp only
                rw [ite_f (by omega)])
              exact this
            unfold calxlaw02_FireBetween_l1; dsimp only
            rw [ite_t (by omega), guardO_pos c2, rdL_nat hk, TSpot_eta, Ends_eq (by omega) (few_12 hf), hE]
            dsimp only [Option.bind_some]
            rw [if_neg (by simp), guardO_pos c3, e1, guardO_pos c4, e2, CheckEnds_eq (by omega) (few_12 hf), CheckEnds_own hc hask]
            dsimp only [Option.bind_some]
            rw [ee]
            dsimp only
            rw [if_neg (by simp)]
            dsimp only [Option.bind_some]
            rw [if_neg (by simp), guardO_pos c3, guardO_pos c4]
            dsimp only [Option.bind_some]
            rw [ite_f (by omega), guardO_pos c2]
            dsimp only [Option.bind_some]
            rw [if_neg (by simp)]
            by_cases hfit : ((FitsS p0 p1 p2).2 == 0 && (FitsS p0 p1 p2).1) = true
            · obtain ⟨g1, g2, g3⟩ := fits_in hfit
              have g4 := (g3 k hk).1
              rw [getD_lt hk, getD0 (by omega)] at g4
              have c5 : (0 : Int) ≤ (k : Int) ∧ (k : Int) < ((p2.length : Nat) : Int) := by omega
              rw [if_pos hfit, guardO_pos c5, guardO_pos c3, rdL_nat (show k < p2.length by omega), ite_f (by omega), guardO_pos c5, guardO_pos c4]
              dsimp only [Option.bind_some]
              rw [ite_f (by omega), hin]
              dsimp only [Option.bind_some]
              rw [w64_succ (by omega)]
            · rw [if_neg hfit]
              dsimp only [Option.bind_some]
              rw [if_neg (by simp), hin]
              dsimp only [Option.bind_some]
              rw [w64_succ (by omega)]) (by
            unfold calxlaw02_FireBetween_l1; dsimp only
            rw [ite_f (by omega)])
          have e0 : loopO (calxlaw02_FireBetween_l1 p0 p1 p2 (p1.map (loS p0), 0) (p1.map (hiS p0), 0) (FitsS p0 p1 p2)) (false, 0) = _ := hrun
          rw [e0]
          rfl
        · rw [if_neg hA, if_neg hA]
          dsimp only
          rw [if_neg (by simp), if_pos (by simpa using hA)]
    · rw [decide_eq_false hp]
      rfl
  · rw [if_pos (by simp [hf])]
    rfl
end Go.Proofs.Ytndajeiecdmhnaa
