/- Plain laws of fire: Coolest, Hottest, Fits, CheckEnds. No program in sight. -/
import Derived.Test.YtndajeiecdmhnaaGreatM7
set_option linter.unusedVariables false
namespace Go.Proofs.YtndajeiecdmhnaaGreat

/-! ### Lists of spots -/
def ListS (f : TFire) (l : List TSpot) : Int := if CheckS f = 0 then if 24 < l.length then 2 else spotsS f l else CheckS f
theorem ListS_0 {f : TFire} {l : List TSpot} : ListS f l = 0 ↔ CheckS f = 0 ∧ l.length ≤ 24 ∧ ∀ s ∈ l, OkSpot s := by
  unfold ListS
  by_cases h1 : CheckS f = 0
  · rw [if_pos h1]
    by_cases h2 : 24 < l.length
    · rw [if_pos h2]
      exact ⟨fun h => (by cases h), fun h => by omega⟩
    · rw [if_neg h2, spotsS_0]
      exact ⟨fun h => ⟨h.1, by omega, h.2⟩, fun h => ⟨h.1, h.2.2⟩⟩
  · rw [if_neg h1]
    exact ⟨fun h => absurd h h1, fun h => absurd h.1 h1⟩
theorem listed_eq {f : TFire} {l : List TSpot} (hf : f.fLooks.length < 1000000) (hl : l.length < 1000000) : fire_listed f l = some (ListS f l) := by
  unfold fire_listed ListS
  rw [Check_eq f (by omega), Option.bind_some]
  by_cases h1 : CheckS f = 0
  · rw [if_pos h1, h1, if_neg (by decide)]
    by_cases h2 : 24 < l.length
    · rw [ite_t (by omega), if_pos h2]
    · rw [ite_f (by omega), if_neg h2, spots_eq hf hl]
      rfl
  · rw [if_neg h1, if_pos (by simpa using h1)]
def askL (f : TFire) (l : List TSpot) : Int := if ListS f l = 0 then if agreeS f = true then 0 else 9 else ListS f l
theorem askL_0 {f : TFire} {l : List TSpot} : askL f l = 0 ↔ ListS f l = 0 ∧ agreeS f = true := by
  unfold askL
  by_cases h : ListS f l = 0
  · rw [if_pos h]
    cases agreeS f <;> simp [h]
  · rw [if_neg h]
    exact ⟨fun h' => absurd h' h, fun h' => absurd h'.1 h⟩
def allG (v : TSpot → Int) (s : List (TSpot × Int) × List Int) (x : TSpot) : List (TSpot × Int) × List Int := (if mhasV s.1 x = true then s.1 else (x, v x) :: s.1, s.2 ++ [v x])
theorem all_eq {f : TFire} {l : List TSpot} {e : TSpan → Option Int} (v : TSpot → Int) (hf : f.fLooks.length < 1000000) (hl : l.length < 100000) (h : CheckS f = 0 → Ok12 f) (hv : ∀ s, e ⟨loS f s, hiS f s⟩ = some (v s)) :
    fire_all f l e = some (if askL f l = 0 then (l.map v, 0) else ([], askL f l)) := by
  unfold fire_all
  rw [listed_eq hf (by omega), Option.bind_some, agreed_eq (fun h0 => h (ListS_0.1 h0).1), Option.bind_some]
  show (if (askL f l != 0) = true then _ else _) = _
  by_cases h0 : askL f l = 0
  · obtain ⟨h1, h2⟩ := askL_0.1 h0
    obtain ⟨h3, h4, h5⟩ := ListS_0.1 h1
    rw [if_pos h0, h0, if_neg (by decide)]
    have hm := (loop_foldl (body := fire_all_l1 f l e) l (fun k (s : List (TSpot × Int) × List Int) => ((k : Int), s.1, s.2)) (allG v) ([], []) (fun s => ((l.length : Int), s.1, s.2)) (fun k s => s.2.length = k ∧ s.1.length ≤ k ∧ ∀ x, mhasV s.1 x = true → mgetV 0 s.1 x = v x) ⟨rfl, Nat.le_refl _, fun x hx => by cases hx⟩ (fun k s hk hs => by
      have c2 : (0 : Int) ≤ (k : Int) ∧ (k : Int) < ((l.length : Nat) : Int) := by omega
      obtain ⟨s1, s2, s3⟩ := hs
      have hx := h5 _ (List.getElem_mem hk)
      have hx' := hx
      unfold OkSpot at hx'
      have hok : TSpot_okk l[k] = true := by unfold TSpot_okk; rw [rngB_of (by omega) (by omega), rngB_of (by omega) (by omega)]; rfl
      have e1 : mgetV 0 ((l[k], v l[k]) :: s.1) l[k] = v l[k] := if_pos rfl
      have step : fire_all_l1 f l e ((k : Int), s.1, s.2) = some (.inl (((k + 1 : Nat) : Int), (allG v s l[k]).1, (allG v s l[k]).2)) := by
        unfold fire_all_l1 allG; dsimp only
        rw [ite_t (by omega), guardO_pos c2, rdL_nat hk, TSpot_eta, guardO_pos hok, ends_eq (h h3) hx, Option.bind_some, w64_succ (by omega)]
        cases hm : mhasV s.1 l[k]
        · rw [if_pos (by rfl), if_neg (by decide)]
          have e2 : e (endsS f l[k]).fSpan = some (v l[k]) := hv _
          rw [e2, Option.bind_some, guardO_pos ⟨hok, by omega⟩, guardO_pos hok, guardO_pos (by omega), e1]
        · rw [if_neg (by decide), if_pos rfl, guardO_pos hok, guardO_pos (by omega), s3 _ hm]
      refine ⟨step, ?_, ?_, ?_⟩
      · unfold allG; simp [s1]
      · unfold allG; dsimp only; split
        · omega
        · simp; omega
      · unfold allG; dsimp only
        cases hm : mhasV s.1 l[k]
        · rw [if_neg (by decide)]
          intro x hx
          unfold mhasV at hx
          unfold mgetV
          by_cases he : l[k] = x
          · rw [if_pos he, he]
          · rw [if_neg he] at hx ⊢
            exact s3 x hx
        · rw [if_pos rfl]
          exact s3) (fun s _ => by
      unfold fire_all_l1; dsimp only
      rw [ite_f (by omega)])).1
    have e0 : loopO (fire_all_l1 f l e) (0, [], ([] : List Int)) = _ := hm
    rw [e0, Option.bind_some]
    have hfold : ∀ (l : List TSpot) (s : List (TSpot × Int) × List Int), (l.foldl (allG v) s).2 = s.2 ++ l.map v := by
      intro l
      induction l with
      | nil => intro s; simp
      | cons x l ih => intro s; rw [List.foldl_cons, ih]; unfold allG; simp
    dsimp only
    rw [hfold]
    rfl
  · rw [if_neg h0, if_pos (by simpa using h0)]
    rfl
theorem Coolest_eq {f : TFire} {l : List TSpot} (hf : f.fLooks.length < 1000000) (hl : l.length < 100000) (h : CheckS f = 0 → Ok12 f) : fire_Coolest f l = some (if askL f l = 0 then (l.map (loS f), 0) else ([], askL f l)) := by
  unfold fire_Coolest
  rw [all_eq (loS f) hf hl h (fun s => rfl)]
  split <;> rfl
theorem Hottest_eq {f : TFire} {l : List TSpot} (hf : f.fLooks.length < 1000000) (hl : l.length < 100000) (h : CheckS f = 0 → Ok12 f) : fire_Hottest f l = some (if askL f l = 0 then (l.map (hiS f), 0) else ([], askL f l)) := by
  unfold fire_Hottest
  rw [all_eq (hiS f) hf hl h (fun s => rfl)]
  split <;> rfl

/-! ### Fits -/
/-- Heats that spots can have, all at once. -/
def FitQ (f : TFire) (l : List TSpot) (hs : List Int) : Prop := ∀ i, i < l.length → (loS f (l.getD i default) ≤ hs.getD i 0 ∧ hs.getD i 0 ≤ hiS f (l.getD i default)) ∧ ∀ k, k < l.length → hs.getD k 0 ≤ hs.getD i 0 + farS f (l.getD i default) (l.getD k default)
instance (f : TFire) (l : List TSpot) (hs : List Int) : Decidable (FitQ f l hs) := by unfold FitQ; infer_instance
def FitsS (f : TFire) (l : List TSpot) (hs : List Int) : Bool × Int :=
  if ListS f l = 0 then if hs.length = l.length ∧ ∀ n ∈ hs, OkHeat n then if agreeS f = true then (decide (FitQ f l hs), 0) else (false, 9) else (false, 1) else (false, ListS f l)
theorem ContainsInt_eq {l : List Int} (hl : l.length < 1000000) : slices_ContainsFunc_int_int l (fun x50 => fire_Fits_1 x50) = some (decide (∃ n ∈ l, ¬ OkHeat n)) := by
  unfold slices_ContainsFunc_int_int
  rw [IndexInt_eq (q := fun n => !decide (OkHeat n)) (by omega) (fun x _ => by unfold fire_Fits_1; rw [heat_eq]; rfl), Option.bind_some]
  refine congrArg some ?_
  rw [Bool.eq_iff_iff, decide_eq_true_eq, decide_eq_true_eq]
  rcases idxI_cases l (fun n => !decide (OkHeat n)) with ⟨h1, h2⟩ | ⟨k, hk, hq, hj, h2⟩
  · rw [h2]
    refine ⟨fun h => by omega, ?_⟩
    rintro ⟨s, hs, hn⟩
    have := h1 s hs
    simp [hn] at this
  · rw [h2]
    exact ⟨fun _ => ⟨l[k], List.getElem_mem hk, by simpa using hq⟩, fun _ => by omega⟩
theorem spot_ext {p q : TSpot} : ((p.fFoot == q.fFoot) && (p.fHour == q.fHour)) = decide (p = q) := by
  rw [Bool.eq_iff_iff, decide_eq_true_eq, Bool.and_eq_true, beq_iff_eq, beq_iff_eq]
  cases p; cases q
  simp
def bad2 (f : TFire) (l : List TSpot) (hs : List Int) (i k : Nat) : Prop := hs.getD i 0 + farS f (l.getD i default) (l.getD k default) < hs.getD k 0 ∨ (l.getD i default = l.getD k default ∧ hs.getD i 0 ≠ hs.getD k 0)
instance (f : TFire) (l : List TSpot) (hs : List Int) (i k : Nat) : Decidable (bad2 f l hs i k) := by unfold bad2; infer_instance
def bad1 (f : TFire) (l : List TSpot) (hs : List Int) (i : Nat) : Prop := ¬ (loS f (l.getD i default) ≤ hs.getD i 0 ∧ hs.getD i 0 ≤ hiS f (l.getD i default)) ∨ ∃ k, k < l.length ∧ bad2 f l hs i k
theorem getD0 {l : List Int} {k : Nat} (h : k < l.length) : l.getD k 0 = l[k] := by
  rw [List.getD_eq_getElem?_getD, List.getElem?_eq_getElem h]; rfl
section
variable {f : TFire} {l : List TSpot} {hs : List Int}
theorem Fits_l2_run (h : Ok12 f) (hl : l.length < 1000000) (ho : ∀ s ∈ l, OkSpot s) (hlen : hs.length = l.length) (hh : ∀ n ∈ hs, OkHeat n) (i : Nat) (hi : i < l.length) :
    ∃ j, loopO (fire_Fits_l2 f l hs (false, 0, (i : Int))) (false, 0, 0) = some (if (∃ k, k < l.length ∧ bad2 f l hs i k) then .inl (false, 0, j) else .inr (false, 0, j)) := by
  have := loop_search (body := fire_Fits_l2 f l hs (false, 0, (i : Int))) (fun k => (false, (0 : Int), (k : Int))) l.length (fun k => if bad2 f l hs i k then some (Sum.inl (false, (0 : Int), (k : Int))) else none) (t0 := .inr (false, 0, (l.length : Int))) (fun k hk => by
    have c1 : decide ((k : Int) < ((l.length : Nat) : Int)) = true := decide_eq_true (by omega)
    have c2 : (0 : Int) ≤ (k : Int) ∧ (k : Int) < ((l.length : Nat) : Int) := by omega
    have c3 : (0 : Int) ≤ (k : Int) ∧ (k : Int) < ((hs.length : Nat) : Int) := by omega
    have c4 : (0 : Int) ≤ (i : Int) ∧ (i : Int) < ((hs.length : Nat) : Int) := by omega
    have hr := far_rg h.1.1 (ho _ (List.getElem_mem hi)) (ho _ (List.getElem_mem hk))
    have hh1 := hh _ (List.getElem_mem (show i < hs.length by omega))
    unfold OkHeat at hh1
    unfold fire_Fits_l2 bad2; dsimp only
    simp only [c1, if_true, guardO_pos c2, guardO_pos c3, guardO_pos c4, rdL_nat hk, rdL_nat hi, rdL_nat (show k < hs.length by omega), rdL_nat (show i < hs.length by omega), TSpot_eta, far_eq h.1.1 (ho _ (List.getElem_mem hi)) (ho _ (List.getElem_mem hk)), Option.bind_some, getD_lt hk, getD_lt hi, getD0 (show k < hs.length by omega), getD0 (show i < hs.length by omega), w64_succ (show k < 9223372036854775807 by omega), spot_ext]
    rw [w64_id (x := hs[i] + _) (by omega) (by omega)]
    by_cases h1 : hs[i] + farS f l[i] l[k] < hs[k]
    · simp [h1]
    · by_cases h2 : l[i] = l[k]
      · rw [h2, far_self] at h1
        by_cases h3 : hs[i] = hs[k]
        · simp [h2, h3, far_self]
        · simp [h2, h3, far_self]
          rw [if_neg (by omega)]
          simp [h3]
      · simp [h1, h2]) (by
    unfold fire_Fits_l2; dsimp only
    rw [ite_f (by omega)])
  have e0 : loopO (fire_Fits_l2 f l hs (false, 0, (i : Int))) (false, 0, 0) = _ := this
  rw [e0]
  rcases findSome_cases (R := fun k => if bad2 f l hs i k then some (Sum.inl (false, (0 : Int), (k : Int)) : (Bool × Int × Int) ⊕ (Bool × Int × Int)) else none) (n := l.length) (.inr (false, 0, (l.length : Int))) with ⟨hn, h4⟩ | ⟨j, t, hj, hR, hj', h4⟩
  · refine ⟨l.length, ?_⟩
    rw [h4, if_neg]
    rintro ⟨k, hk, hb⟩
    have := hn k hk
    rw [if_pos hb] at this
    cases this
  · split at hR
    · rename_i hb
      cases hR
      exact ⟨j, by rw [h4, if_pos ⟨j, hj, hb⟩]⟩
    · cases hR
theorem FitQ_bad (hlen : hs.length = l.length) : FitQ f l hs ↔ ∀ i, i < l.length → ¬ bad1 f l hs i := by
  unfold FitQ bad1 bad2
  constructor
  · intro h i hi hb
    obtain ⟨h1, h2⟩ := h i hi
    rcases hb with hb | ⟨k, hk, hb | ⟨hb1, hb2⟩⟩
    · exact hb h1
    · have := h2 k hk
      omega
    · have a1 := h2 k hk
      have a2 := (h k hk).2 i hi
      rw [hb1, far_self] at a1 a2
      omega
  · intro h i hi
    have hb := h i hi
    refine ⟨Decidable.byContradiction fun hc => hb (.inl hc), fun k hk => ?_⟩
    have : ¬ (hs.getD i 0 + farS f (l.getD i default) (l.getD k default) < hs.getD k 0) := fun hc => hb (.inr ⟨k, hk, .inl hc⟩)
    omega
theorem Fits_eq (hf : f.fLooks.length < 1000000) (hl : l.length < 1000000) (hhl : hs.length < 1000000) (h : CheckS f = 0 → Ok12 f) : fire_Fits f l hs = some (FitsS f l hs) := by
  unfold fire_Fits FitsS
  rw [listed_eq hf hl, Option.bind_some]
  by_cases h0 : ListS f l = 0
  · obtain ⟨h3, h4, h5⟩ := ListS_0.1 h0
    have h12 := h h3
    rw [if_pos h0, h0, if_neg (by decide), ContainsInt_eq hhl]
    by_cases h1 : hs.length = l.length ∧ ∀ n ∈ hs, OkHeat n
    · obtain ⟨hlen, hh⟩ := h1
      rw [if_pos (show hs.length = l.length ∧ ∀ n ∈ hs, OkHeat n from ⟨hlen, hh⟩), if_neg (by simp [hlen])]
      dsimp only [Option.bind_some]
      have hno : ¬ ∃ n ∈ hs, ¬ OkHeat n := by rintro ⟨n, hn, hc⟩; exact hc (hh n hn)
      rw [if_neg (by rw [decide_eq_false hno]; decide), agree_eq h12, Option.bind_some]
      cases hag : agreeS f
      · rfl
      · rw [if_neg (by decide), if_pos rfl]
        have := loop_search (body := fire_Fits_l1 f l hs) (fun k => (false, (0 : Int), (k : Int))) l.length (fun i => @ite _ (bad1 f l hs i) (Classical.propDecidable _) (some (Sum.inl (false, (0 : Int), (i : Int)))) none) (t0 := .inr (false, 0, (l.length : Int))) (fun i hi => by
          have c2 : (0 : Int) ≤ (i : Int) ∧ (i : Int) < ((l.length : Nat) : Int) := by omega
          have c3 : (0 : Int) ≤ (i : Int) ∧ (i : Int) < ((hs.length : Nat) : Int) := by omega
          obtain ⟨j, hj⟩ := Fits_l2_run h12 hl h5 hlen hh i hi
          unfold fire_Fits_l1 bad1; dsimp only
          rw [ite_t (by omega), guardO_pos c2, rdL_nat hi, TSpot_eta, ends_eq h12 (h5 _ (List.getElem_mem hi)), Option.bind_some, guardO_pos c3, rdL_nat (show i < hs.length by omega), within_eq, Option.bind_some, hj, w64_succ (by omega), getD_lt hi, getD0 (show i < hs.length by omega)]
          have ee : endsS f l[i] = ⟨⟨loS f l[i], hiS f l[i]⟩, (endsS f l[i]).fLow, (endsS f l[i]).fHigh⟩ := rfl
          rw [ee]
          dsimp only
          by_cases hb1 : loS f l[i] ≤ hs[i] ∧ hs[i] ≤ hiS f l[i]
          · rw [if_neg (by simp [hb1])]
            by_cases hb2 : ∃ k, k < l.length ∧ bad2 f l hs i k
            · rw [if_pos hb2, if_pos (.inr hb2)]
              rfl
            · rw [if_neg hb2, if_neg (fun hc => hc.elim (fun hc => hc hb1) hb2)]
              rfl
          · rw [if_pos (by rw [decide_eq_false hb1]; rfl), if_pos (.inl hb1)]) (by
          unfold fire_Fits_l1; dsimp only
          rw [ite_f (by omega)])
        have e0 : loopO (fire_Fits_l1 f l hs) (false, 0, 0) = _ := this
        rw [e0, Option.bind_some]
        rcases findSome_cases (R := fun i => @ite _ (bad1 f l hs i) (Classical.propDecidable _) (some (Sum.inl (false, (0 : Int), (i : Int)) : (Bool × Int × Int) ⊕ (Bool × Int × Int))) none) (n := l.length) (.inr (false, 0, (l.length : Int))) with ⟨hn, h6⟩ | ⟨j, t, hj, hR, hj', h6⟩
        · rw [h6]
          have : FitQ f l hs := (FitQ_bad hlen).2 (fun i hi hb => by
            have := hn i hi
            rw [if_pos hb] at this
            cases this)
          rw [decide_eq_true this]
        · rw [h6]
          split at hR
          · rename_i hb
            cases hR
            have : ¬ FitQ f l hs := fun hc => (FitQ_bad hlen).1 hc j hj hb
            rw [decide_eq_false this]
          · cases hR
    · rw [if_neg h1]
      by_cases hlen : hs.length = l.length
      · have hex : ∃ n ∈ hs, ¬ OkHeat n := by
          refine Decidable.byContradiction fun hc => h1 ⟨hlen, fun n hn => Decidable.byContradiction fun hn' => hc ⟨n, hn, hn'⟩⟩
        rw [if_neg (by simp [hlen])]
        dsimp only [Option.bind_some]
        rw [if_pos (decide_eq_true hex)]
      · rw [if_pos (by simp; omega)]
        rfl
  · rw [if_neg h0, if_pos (by simpa using h0)]
end

/-! ### CheckEnds -/
def showsQ (f : TFire) (t : TLook → Int) (id end_ none_ : Int) : Prop := (id = 0 ∧ end_ = none_) ∨ ∃ x ∈ f.fLooks, x.fID = id ∧ t x = end_
instance (f : TFire) (t : TLook → Int) (id end_ none_ : Int) : Decidable (showsQ f t id end_ none_) := by unfold showsQ; infer_instance
/-! ### The ends as a field -/
section
variable {f : TFire}
end
end Go.Proofs.YtndajeiecdmhnaaGreat
