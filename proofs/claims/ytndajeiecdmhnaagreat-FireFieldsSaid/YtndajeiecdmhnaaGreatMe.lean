/- The plain law FireFields. No program in sight. -/
import Derived.Test.YtndajeiecdmhnaaGreatMd
import Derived.Test.YtndajeiecdmhnaaGreatMb
set_option linter.unusedVariables false
namespace Go.Proofs.YtndajeiecdmhnaaGreat

theorem foldl_snoc {α β : Type} (g : α → β) : ∀ (l : List α) (m : List β), l.foldl (fun m x => m ++ [g x]) m = m ++ l.map g
  | [], m => by simp
  | x :: l, m => by rw [List.foldl_cons, foldl_snoc g l]; simp
section
variable {f : TFire} {l : List TSpot} {hs : List Int}
theorem rCoolest_eq (hf : f.fLooks.length < 1000000) (hl : l.length < 1000000) : calxref02_Coolest f l = some (if askL f l = 0 then ⟨l.map (loS f), 0⟩ else ⟨[], askL f l⟩) := by
  unfold calxref02_Coolest
  rw [asked_eq hf hl, Option.bind_some]
  by_cases h0 : askL f l = 0
  · obtain ⟨h1, h2⟩ := askL_0.1 h0
    obtain ⟨h3, h4, h5⟩ := ListS_0.1 h1
    rw [if_pos h0, h0, if_neg (by decide)]
    have hm := (loop_foldl (body := calxref02_Coolest_l1 f l) l (fun k (s : List Int) => ((k : Int), s)) (fun s x => s ++ [loS f x]) [] (fun s => ((l.length : Int), s)) (fun k s => s.length = k) rfl (fun k s hk hs => by
      have c2 : (0 : Int) ≤ (k : Int) ∧ (k : Int) < ((l.length : Nat) : Int) := by omega
      refine ⟨?_, by simp [hs]⟩
      unfold calxref02_Coolest_l1; dsimp only
      rw [ite_t (by omega), guardO_pos c2, rdL_nat hk, TSpot_eta, rends_eq (CheckS_ok.1 h3) (h5 _ (List.getElem_mem hk)), Option.bind_some, guardO_pos (by omega), w64_succ (by omega)]) (fun s _ => by
      unfold calxref02_Coolest_l1; dsimp only
      rw [ite_f (by omega)])).1
    have e0 : loopO (calxref02_Coolest_l1 f l) (0, ([] : List Int)) = _ := hm
    rw [e0, Option.bind_some, foldl_snoc]
    rfl
  · rw [if_neg h0, if_pos (by simpa using h0)]
theorem rHottest_eq (hf : f.fLooks.length < 1000000) (hl : l.length < 1000000) : calxref02_Hottest f l = some (if askL f l = 0 then ⟨l.map (hiS f), 0⟩ else ⟨[], askL f l⟩) := by
  unfold calxref02_Hottest
  rw [asked_eq hf hl, Option.bind_some]
  by_cases h0 : askL f l = 0
  · obtain ⟨h1, h2⟩ := askL_0.1 h0
    obtain ⟨h3, h4, h5⟩ := ListS_0.1 h1
    rw [if_pos h0, h0, if_neg (by decide)]
    have hm := (loop_foldl (body := calxref02_Hottest_l1 f l) l (fun k (s : List Int) => ((k : Int), s)) (fun s x => s ++ [hiS f x]) [] (fun s => ((l.length : Int), s)) (fun k s => s.length = k) rfl (fun k s hk hs => by
      have c2 : (0 : Int) ≤ (k : Int) ∧ (k : Int) < ((l.length : Nat) : Int) := by omega
      refine ⟨?_, by simp [hs]⟩
      unfold calxref02_Hottest_l1; dsimp only
      rw [ite_t (by omega), guardO_pos c2, rdL_nat hk, TSpot_eta, rends_eq (CheckS_ok.1 h3) (h5 _ (List.getElem_mem hk)), Option.bind_some, guardO_pos (by omega), w64_succ (by omega)]) (fun s _ => by
      unfold calxref02_Hottest_l1; dsimp only
      rw [ite_f (by omega)])).1
    have e0 : loopO (calxref02_Hottest_l1 f l) (0, ([] : List Int)) = _ := hm
    rw [e0, Option.bind_some, foldl_snoc]
    rfl
  · rw [if_neg h0, if_pos (by simpa using h0)]
def rbad2 (f : TFire) (l : List TSpot) (hs : List Int) (i k : Nat) : Prop := hs.getD i 0 + farS f (l.getD i default) (l.getD k default) < hs.getD k 0
instance (f : TFire) (l : List TSpot) (hs : List Int) (i k : Nat) : Decidable (rbad2 f l hs i k) := by unfold rbad2; infer_instance
def rbad1 (f : TFire) (l : List TSpot) (hs : List Int) (i : Nat) : Prop := ¬ (loS f (l.getD i default) ≤ hs.getD i 0 ∧ hs.getD i 0 ≤ hiS f (l.getD i default)) ∨ ∃ k, k < l.length ∧ rbad2 f l hs i k
theorem rFitQ_bad : FitQ f l hs ↔ ∀ i, i < l.length → ¬ rbad1 f l hs i := by
  unfold FitQ rbad1 rbad2
  constructor
  · intro h i hi hb
    obtain ⟨h1, h2⟩ := h i hi
    rcases hb with hb | ⟨k, hk, hb⟩
    · exact hb h1
    · have := h2 k hk
      omega
  · intro h i hi
    have hb := h i hi
    refine ⟨Decidable.byContradiction fun hc => hb (.inl hc), fun k hk => ?_⟩
    have : ¬ (hs.getD i 0 + farS f (l.getD i default) (l.getD k default) < hs.getD k 0) := fun hc => hb (.inr ⟨k, hk, hc⟩)
    omega
theorem rFits_l3_run (h : OkF f) (hl : l.length < 1000000) (ho : ∀ s ∈ l, OkSpot s) (hlen : hs.length = l.length) (hh : ∀ n ∈ hs, OkHeat n) (i : Nat) (hi : i < l.length) :
    ∃ j, loopO (calxref02_Fits_l3 f l hs (false, 0, (i : Int))) (false, 0, 0) = some (if (∃ k, k < l.length ∧ rbad2 f l hs i k) then .inl (false, 0, j) else .inr (false, 0, j)) := by
  have := loop_search (body := calxref02_Fits_l3 f l hs (false, 0, (i : Int))) (fun k => (false, (0 : Int), (k : Int))) l.length (fun k => if rbad2 f l hs i k then some (Sum.inl (false, (0 : Int), (k : Int))) else none) (t0 := .inr (false, 0, (l.length : Int))) (fun k hk => by
    have c1 : decide ((k : Int) < ((l.length : Nat) : Int)) = true := decide_eq_true (by omega)
    have c2 : (0 : Int) ≤ (k : Int) ∧ (k : Int) < ((l.length : Nat) : Int) := by omega
    have c3 : (0 : Int) ≤ (k : Int) ∧ (k : Int) < ((hs.length : Nat) : Int) := by omega
    have c4 : (0 : Int) ≤ (i : Int) ∧ (i : Int) < ((hs.length : Nat) : Int) := by omega
    have c5 : (0 : Int) ≤ (i : Int) ∧ (i : Int) < ((l.length : Nat) : Int) := by omega
    have hr := far_rg h.1 (ho _ (List.getElem_mem hi)) (ho _ (List.getElem_mem hk))
    have hh1 := hh _ (List.getElem_mem (show i < hs.length by omega))
    unfold OkHeat at hh1
    unfold calxref02_Fits_l3 rbad2; dsimp only
    simp only [c1, if_true, guardO_pos c2, guardO_pos c3, guardO_pos c4, guardO_pos c5, rdL_nat hk, rdL_nat hi, rdL_nat (show k < hs.length by omega), rdL_nat (show i < hs.length by omega), TSpot_eta, rfar_eq h.1 (ho _ (List.getElem_mem hi)) (ho _ (List.getElem_mem hk)), Option.bind_some, getD_lt hk, getD_lt hi, getD0 (show k < hs.length by omega), getD0 (show i < hs.length by omega), w64_succ (show k < 9223372036854775807 by omega)]
    rw [w64_id (x := hs[i] + _) (by omega) (by omega)]
    by_cases h1 : hs[i] + farS f l[i] l[k] < hs[k]
    · rw [if_pos (decide_eq_true h1), if_pos h1]
    · rw [if_neg (by simpa using h1), if_neg h1]) (by
    unfold calxref02_Fits_l3; dsimp only
    rw [ite_f (by omega)])
  have e0 : loopO (calxref02_Fits_l3 f l hs (false, 0, (i : Int))) (false, 0, 0) = _ := this
  rw [e0]
  rcases findSome_cases (R := fun k => if rbad2 f l hs i k then some (Sum.inl (false, (0 : Int), (k : Int)) : (Bool × Int × Int) ⊕ (Bool × Int × Int)) else none) (n := l.length) (.inr (false, 0, (l.length : Int))) with ⟨hn, h4⟩ | ⟨j, t, hj, hR, hj', h4⟩
  · refine ⟨l.length, ?_⟩
    rw [h4, if_neg]
    rintro ⟨k, hk, hb⟩
    have := hn k hk
    rw [if_pos hb] at this
    cases this
  · split at hR
    · rename_i hb
      cases hR
      exact ⟨j, by rw [h4, if_pos ⟨j, hj, hb⟩]⟩
    · cases hR
theorem rFits_l1_run (hhl : hs.length < 1000000) : ∃ j, loopO (calxref02_Fits_l1 hs) (false, 0, 0) = some (if (∀ n ∈ hs, OkHeat n) then .inr (false, 0, j) else .inl (false, 1, j)) := by
  have := loop_search (body := calxref02_Fits_l1 hs) (fun k => (false, (0 : Int), (k : Int))) hs.length (fun k => if OkHeat (hs.getD k 0) then none else some (Sum.inl (false, (1 : Int), (k : Int)))) (t0 := .inr (false, 0, (hs.length : Int))) (fun k hk => by
    have c2 : (0 : Int) ≤ (k : Int) ∧ (k : Int) < ((hs.length : Nat) : Int) := by omega
    unfold calxref02_Fits_l1; dsimp only
    rw [ite_t (by omega), guardO_pos c2, rdL_nat hk, rHeat_eq, Option.bind_some, getD0 hk, w64_succ (by omega)]
    by_cases h1 : OkHeat hs[k]
    · rw [if_neg (by simp [h1]), if_pos h1]
    · rw [if_pos (by simp [h1]), if_neg h1]) (by
    unfold calxref02_Fits_l1; dsimp only
    rw [ite_f (by omega)])
  have e0 : loopO (calxref02_Fits_l1 hs) (false, 0, 0) = _ := this
  rw [e0]
  rcases findSome_cases (R := fun k => if OkHeat (hs.getD k 0) then none else some (Sum.inl (false, (1 : Int), (k : Int)) : (Bool × Int × Int) ⊕ (Bool × Int × Int))) (n := hs.length) (.inr (false, 0, (hs.length : Int))) with ⟨hn, h4⟩ | ⟨j, t, hj, hR, hj', h4⟩
  · refine ⟨hs.length, ?_⟩
    rw [h4, if_pos]
    intro n hn'
    obtain ⟨k, hk, rfl⟩ := List.mem_iff_getElem.1 hn'
    have := hn k hk
    rw [getD0 hk] at this
    refine Decidable.byContradiction fun hc => ?_
    rw [if_neg hc] at this
    cases this
  · rw [getD0 hj] at hR
    split at hR
    · cases hR
    · rename_i hb
      cases hR
      exact ⟨j, by rw [h4, if_neg (fun hc => hb (hc _ (List.getElem_mem hj)))]⟩
theorem rFits_eq (hf : f.fLooks.length < 1000000) (hl : l.length < 1000000) (hhl : hs.length < 1000000) : calxref02_Fits f l hs = some (FitsS f l hs) := by
  unfold calxref02_Fits FitsS ListS spotsS
  rw [rCheck_eq f (by omega), Option.bind_some]
  by_cases h3 : CheckS f = 0
  · simp only [if_pos h3]
    rw [h3, if_neg (by decide), rspots_eq hl, Option.bind_some]
    by_cases h4 : 24 < l.length
    · simp only [if_pos h4]
      rfl
    · simp only [if_neg h4]
      by_cases h5' : ∃ s ∈ l, ¬ OkSpot s
      · simp only [if_pos h5']
        rfl
      · simp only [if_neg h5']
        have h5 : ∀ s ∈ l, OkSpot s := fun s hs => Decidable.byContradiction fun hc => h5' ⟨s, hs, hc⟩
        rw [if_neg (by decide)]
        have ho := CheckS_ok.1 h3
        by_cases hlen : hs.length = l.length
        · rw [if_neg (by simp [hlen])]
          obtain ⟨j0, hj0⟩ := rFits_l1_run (hs := hs) hhl
          rw [hj0, Option.bind_some]
          by_cases hh : ∀ n ∈ hs, OkHeat n
          · have hc1 : hs.length = l.length ∧ ∀ n ∈ hs, OkHeat n := ⟨hlen, hh⟩
            simp only [if_pos hh, if_pos hc1]
            rw [ragree_eq ho, Option.bind_some]
            cases hag : agreeS f
            · rfl
            · rw [if_neg (by decide)]
              simp only [if_true]
              have := loop_search (body := calxref02_Fits_l2 f l hs) (fun k => (false, (0 : Int), (k : Int))) l.length (fun i => @ite _ (rbad1 f l hs i) (Classical.propDecidable _) (some (Sum.inl (false, (0 : Int), (i : Int)))) none) (t0 := .inr (false, 0, (l.length : Int))) (fun i hi => by
                have c2 : (0 : Int) ≤ (i : Int) ∧ (i : Int) < ((l.length : Nat) : Int) := by omega
                have c3 : (0 : Int) ≤ (i : Int) ∧ (i : Int) < ((hs.length : Nat) : Int) := by omega
                obtain ⟨j, hj⟩ := rFits_l3_run ho hl h5 hlen hh i hi
                unfold calxref02_Fits_l2 rbad1; dsimp only
                rw [ite_t (by omega), guardO_pos c2, rdL_nat hi, TSpot_eta, rends_eq ho (h5 _ (List.getElem_mem hi)), Option.bind_some, guardO_pos c3, guardO_pos c3, rdL_nat (show i < hs.length by omega), hj, w64_succ (by omega), getD_lt hi, getD0 (show i < hs.length by omega)]
                dsimp only
                by_cases hb1 : loS f l[i] ≤ hs[i] ∧ hs[i] ≤ hiS f l[i]
                · rw [ite_f (by omega), Option.bind_some, if_neg (by simp; omega)]
                  by_cases hb2 : ∃ k, k < l.length ∧ rbad2 f l hs i k
                  · rw [if_pos hb2, if_pos (.inr hb2)]
                    rfl
                  · rw [if_neg hb2, if_neg (fun hc => hc.elim (fun hc => hc hb1) hb2)]
                    rfl
                · by_cases hb3 : hs[i] < loS f l[i]
                  · rw [ite_t hb3, Option.bind_some, if_pos rfl, if_pos (.inl hb1)]
                  · rw [ite_f hb3, Option.bind_some, if_pos (decide_eq_true (by omega)), if_pos (.inl hb1)]) (by
                unfold calxref02_Fits_l2; dsimp only
                rw [ite_f (by omega)])
              have e0 : loopO (calxref02_Fits_l2 f l hs) (false, 0, 0) = _ := this
              rw [e0, Option.bind_some]
              rcases findSome_cases (R := fun i => @ite _ (rbad1 f l hs i) (Classical.propDecidable _) (some (Sum.inl (false, (0 : Int), (i : Int)) : (Bool × Int × Int) ⊕ (Bool × Int × Int))) none) (n := l.length) (.inr (false, 0, (l.length : Int))) with ⟨hn, h6⟩ | ⟨j, t, hj, hR, hj', h6⟩
              · rw [h6]
                have : FitQ f l hs := rFitQ_bad.2 (fun i hi hb => by
                  have := hn i hi
                  rw [if_pos hb] at this
                  cases this)
                rw [decide_eq_true this]
              · rw [h6]
                split at hR
                · rename_i hb
                  cases hR
                  have : ¬ FitQ f l hs := fun hc => rFitQ_bad.1 hc j hj hb
                  rw [decide_eq_false this]
                · cases hR
          · have hc1 : ¬ (hs.length = l.length ∧ ∀ n ∈ hs, OkHeat n) := fun hc => hh hc.2
            simp only [if_neg hh, if_neg hc1]
            rfl
        · have hc1 : ¬ (hs.length = l.length ∧ ∀ n ∈ hs, OkHeat n) := fun hc => hlen hc.1
          rw [if_pos (by simp; omega)]
          simp only [if_neg hc1]
          rfl
  · simp only [if_neg h3]
    rw [if_pos (by simpa using h3)]
end
theorem FireFields_true (p0 : TFire) (p1 : List TSpot) (p2 : List Int) (h0 : TFire_rg p0) (h1 : Rg_list TSpot_rg p1) (h2 : Rg_list Rg_i64 p2) : calxlaw02_FireFields p0 p1 p2 = some true := by
  unfold calxlaw02_FireFields
  rw [few_eq, Option.bind_some, sanity_true, short_eq]
  by_cases hf : few p0
  · have hl := few_len hf
    rw [if_neg (by simp [hf])]
    by_cases hp : shortQ p1
    · have hpl : p1.length ≤ 40 := by unfold shortQ at hp; omega
      rw [decide_eq_true hp]
      dsimp only [Option.bind_some]
      by_cases h40 : 40 < p2.length
      · rw [if_pos (by simp; omega)]
      · rw [if_neg (by simp; omega), Coolest_eq (by omega) (by omega) (few_12 hf), Hottest_eq (by omega) (by omega) (few_12 hf), rCoolest_eq (by omega) (by omega), rHottest_eq (by omega) (by omega), Fits_eq (by omega) (by omega) (by omega) (few_12 hf), rFits_eq (by omega) (by omega) (by omega)]
        dsimp only [Option.bind_some]
        by_cases hA : askL p0 p1 = 0
        · simp only [if_pos hA]
          rw [SameInts_self (by rw [List.length_map]; omega), SameInts_self (by rw [List.length_map]; omega)]
          simp
        · simp only [if_neg hA]
          rw [SameInts_self (by simp)]
          simp
    · rw [decide_eq_false hp]
      rfl
  · rw [if_pos (by simp [hf])]
    rfl
end Go.Proofs.YtndajeiecdmhnaaGreat
