/- Plain laws of fire: the reference's Would, Needed, Decides; FireLooks. No program in sight. -/
import Derived.Test.YtndajeiecdmhnaaGreatMg
import Derived.Test.YtndajeiecdmhnaaGreatMd
import Derived.Test.YtndajeiecdmhnaaGreatMb
set_option linter.unusedVariables false
namespace Go.Proofs.YtndajeiecdmhnaaGreat

theorem rWould_eq {f : TFire} {x : TLook} {p : TSpot} (hf : f.fLooks.length < 1000000) : ref02_Would f x p = some ⟨(WouldS f x p).1, (WouldS f x p).2⟩ := by
  unfold ref02_Would WouldS
  rw [rCheck_eq f (by omega), Option.bind_some, rSpot_eq]
  by_cases hc : CheckS f = 0
  · rw [if_neg (by simp [hc])]
    dsimp only [Option.bind_some]
    by_cases hp : OkSpot p
    · have hsp : spotsS f [p] = 0 := spotsS_0.2 ⟨hc, fun s hs => by rw [List.mem_singleton.1 hs]; exact hp⟩
      rw [if_neg (by simp [hp]), guardO_pos (by omega), guardO_pos (by omega), if_pos hsp]
      have hg : (wiS f x).fLooks.length < 1000000 := by
        rw [wi_len]
        have := (CheckS_ok.1 hc).2.1
        omega
      have e := rEnds_eq (f := wiS f x) (at_ := p) hg
      have ew : (TFire.mk f.fRise f.fFall f.fUp f.fDown ([] ++ f.fLooks ++ [x])) = wiS f x := rfl
      rw [ew, e]
      dsimp only [Option.bind_some]
      unfold EndsS askS
      by_cases hcg : CheckS (wiS f x) = 0
      · have hsg : spotsS (wiS f x) [p] = 0 := spotsS_0.2 ⟨hcg, fun s hs => by rw [List.mem_singleton.1 hs]; exact hp⟩
        rw [if_pos hsg, if_pos hcg]
        cases agreeS (wiS f x) <;> rfl
      · have hsg : spotsS (wiS f x) [p] = CheckS (wiS f x) := by unfold spotsS; rw [if_neg hcg]
        rw [hsg, if_neg hcg, if_neg hcg, if_neg hcg]
    · have hsp : spotsS f [p] = 1 := by
        unfold spotsS
        rw [if_pos hc, if_pos ⟨p, by simp, hp⟩]
      rw [if_pos (by simp [hp]), hsp]
      rfl
  · have hsp : spotsS f [p] = CheckS f := by unfold spotsS; rw [if_neg hc]
    rw [if_pos (by simpa using hc), hsp, if_neg hc]
theorem rhot_eq {f : TFire} {l : List TSpot} {p : TSpot} {need : Int} (hf : f.fLooks.length < 1000000) (hl : l.length < 1000000) : ref02_hot f l p need = some (hotS f l p need) := by
  unfold ref02_hot hotS
  rw [rCheck_eq f (by omega), Option.bind_some]
  by_cases hc : CheckS f = 0
  · rw [if_neg (by simp [hc]), if_pos hc, rspots_eq hl, Option.bind_some]
    by_cases h24 : 24 < l.length
    · rw [if_pos h24, if_pos h24]
      rfl
    · rw [if_neg h24, if_neg h24]
      by_cases he : ∃ s ∈ l, ¬ OkSpot s
      · have hno : ¬ ((∀ s ∈ l, OkSpot s) ∧ OkSpot p ∧ OkHeat need) := by
          rintro ⟨a, _⟩
          obtain ⟨s, hs1, hs2⟩ := he
          exact hs2 (a s hs1)
        rw [if_pos he, if_neg hno]
        rfl
      · have ho : ∀ s ∈ l, OkSpot s := fun s hs => Decidable.by_contra fun h => he ⟨s, hs, h⟩
        rw [if_neg he, if_neg (by decide), rSpot_eq, Option.bind_some, rHeat_eq, Option.bind_some, ragree_eq (CheckS_ok.1 hc)]
        by_cases hp : OkSpot p ∧ OkHeat need
        · rw [if_neg (by simp [hp.1, hp.2]), if_pos ⟨ho, hp.1, hp.2⟩]
          dsimp only [Option.bind_some]
          cases agreeS f <;> rfl
        · rw [if_pos, if_neg (fun h => hp ⟨h.2.1, h.2.2⟩)]
          simp only [Bool.or_eq_true, Bool.not_eq_true', decide_eq_false_iff_not]
          exact Decidable.not_and_iff_or_not.1 hp
  · rw [if_pos (by simpa using hc), if_neg hc]
theorem neS_nn {f : TFire} {q p : TSpot} {need : Int} (h : (neS f q p need).2 = true) : 0 ≤ (neS f q p need).1 := by
  have h1 := loS_le f q
  unfold neS at h ⊢
  by_cases a1 : need ≤ loS f p
  · rw [if_pos a1]; exact h1
  · rw [if_neg a1] at h ⊢
    by_cases a2 : hiS f q < max (loS f q) (need + farS f p q)
    · rw [if_pos a2] at h; cases h
    · rw [if_neg a2]; dsimp only; omega
theorem rneeded_eq {f : TFire} (h : OkF f) {q p : TSpot} (hq : OkSpot q) (hp : OkSpot p) {need : Int} (hn : OkHeat need) : ref02_needed f q p need = some (if (neS f q p need).2 = true then (neS f q p need).1 else -1) := by
  have hr := far_rg h.1 hp hq
  have hn' := hn
  unfold OkHeat at hn'
  unfold ref02_needed neS
  rw [rends_eq h hq, Option.bind_some, rends_eq h hp, Option.bind_some, rfar_eq h.1 hp hq]
  dsimp only
  by_cases h1 : need ≤ loS f p
  · rw [ite_t h1, if_pos h1]
    rfl
  · rw [ite_f h1, if_neg h1]
    dsimp only [Option.bind_some]
    rw [w64_id (x := need + farS f p q) (by omega) (by omega)]
    by_cases h2 : hiS f q < max (loS f q) (need + farS f p q)
    · rw [ite_t h2, if_pos h2]
      rfl
    · rw [ite_f h2, if_neg h2]
      rfl
theorem rNeeded_eq {f : TFire} {q p : TSpot} {need : Int} (hf : f.fLooks.length < 1000000) : ref02_Needed f q p need = some ⟨(NeededS f q p need).1, (NeededS f q p need).2.1, (NeededS f q p need).2.2⟩ := by
  unfold ref02_Needed NeededS
  rw [rhot_eq hf (by simp), Option.bind_some]
  by_cases hh : hotS f [q] p need = 0
  · obtain ⟨hc, _, hqs, hp, hn, hag⟩ := hotS_0.1 hh
    rw [if_pos hh, if_neg (by simp [hh]), rneeded_eq (CheckS_ok.1 hc) (hqs q (by simp)) hp hn, Option.bind_some]
    by_cases hi : (neS f q p need).2 = true
    · have := neS_nn hi
      rw [if_pos hi, ite_f (by omega), hi]
    · have e : (neS f q p need).1 = 0 := by
        unfold neS at hi ⊢
        by_cases a1 : need ≤ loS f p
        · rw [if_pos a1] at hi; exact absurd rfl hi
        · rw [if_neg a1] at hi ⊢
          by_cases a2 : hiS f q < max (loS f q) (need + farS f p q)
          · rw [if_pos a2]
          · rw [if_neg a2] at hi; exact absurd rfl hi
      rw [if_neg hi, ite_t (by decide), e, (Bool.not_eq_true _).mp hi]
  · rw [if_neg hh, if_pos (by simpa using hh)]
theorem rDecides_eq {f : TFire} {l : List TSpot} {p : TSpot} {need : Int} (hf : f.fLooks.length < 1000000) (hl : l.length < 1000000) : ref02_Decides f l p need = some ⟨(DecidesS f l p need).1, (DecidesS f l p need).2⟩ := by
  unfold ref02_Decides DecidesS
  rw [rhot_eq hf hl, Option.bind_some]
  by_cases hh : hotS f l p need = 0
  · obtain ⟨hc, _, ho, hp, hn, hag⟩ := hotS_0.1 hh
    have h := CheckS_ok.1 hc
    have hrun := loop_run (body := ref02_Decides_l1 f l p need) (fun k => ((k : Int), decL f l p need k)) l.length (t := ((l.length : Int), decL f l p need l.length)) (fun k hk => by
      have c2 : (0 : Int) ≤ (k : Int) ∧ (k : Int) < ((l.length : Nat) : Int) := by omega
      have hq := ho _ (List.getElem_mem hk)
      have hr := far_rg h.1 hq hp
      have h1 := loS_le f l[k]
      have h3 : loS f l[k] ≤ 1500 := by
        rcases loS_at f l[k] with h2 | ⟨x, hx, h2⟩
        · omega
        · have := low_rg h.1 hq (h.2.2.1 x hx); omega
      have hdl := decL_len f l p need k
      unfold ref02_Decides_l1; dsimp only
      rw [ite_t (by omega), guardO_pos c2, rdL_nat hk, TSpot_eta, rneeded_eq h hq hp hn, rends_eq h hq, rends_eq h hp, rfar_eq h.1 hq hp]
      dsimp only [Option.bind_some]
      rw [guardO_pos c2, guardO_pos c2, w64_id (x := loS f l[k] + _) (by omega) (by omega), w64_succ (by omega), guardO_pos (by omega), decL_succ, getD_lt hk]
      unfold decQ
      by_cases hi : (neS f l[k] p need).2 = true
      · rw [if_pos hi, hi, Bool.true_and]
        by_cases hb : loS f l[k] < (neS f l[k] p need).1
        · rw [ite_t hb, decide_eq_true hb, Bool.true_and]
          dsimp only [Option.bind_some]
          split <;> rfl
        · rw [ite_f hb, decide_eq_false hb, Bool.false_and]
          rfl
      · rw [if_neg hi, (Bool.not_eq_true _).mp hi, Bool.false_and, Bool.false_and, ite_f (by omega)]
        rfl) (by
      unfold ref02_Decides_l1; dsimp only
      rw [ite_f (by omega)])
    have e0 : loopO (ref02_Decides_l1 f l p need) (0, ([] : List Int)) = _ := hrun
    rw [if_pos hh, if_neg (by simp [hh]), e0]
    rfl
  · rw [if_neg hh, if_pos (by simpa using hh)]
theorem FireLooks_true (p0 : TFire) (p1 : TLook) (p2 : TSpot) (p3 : Int) (p4 : TSpot) (p5 : List TSpot) (h0 : TFire_rg p0) (h1 : TLook_rg p1) (h2 : TSpot_rg p2) (h3 : Rg_i64 p3) (h4 : TSpot_rg p4) (h5 : Rg_list TSpot_rg p5) : calxlaw02_FireLooks p0 p1 p2 p3 p4 p5 = some true := by
  unfold calxlaw02_FireLooks
  rw [few_eq, Option.bind_some, sanity_true, short_eq]
  by_cases hf : few p0
  · have hl := few_len hf
    have hfl : CheckS p0 = 0 → p0.fLooks.length ≤ 12 := fun hc => by
      have := (CheckS_ok.1 hc).2.1
      unfold few at hf
      omega
    rw [if_neg (by simp [hf])]
    dsimp only [Option.bind_some]
    by_cases hs : shortQ p5
    · have hl5 : p5.length ≤ 40 := by unfold shortQ at hs; omega
      rw [if_neg (by simp [hs]), Would_eq (by omega) hfl, rWould_eq (by omega), Needed_eq (by omega) (few_12 hf), rNeeded_eq (by omega), Decides_eq (by omega) (by omega) (few_12 hf), rDecides_eq (by omega) (by omega)]
      dsimp only [Option.bind_some]
      have hdl : (DecidesS p0 p5 p2 p3).1.length ≤ p5.length := by
        unfold DecidesS
        split
        · exact decL_len _ _ _ _ _
        · simp
      rw [SameInts_self (by omega)]
      simp
    · rw [if_pos (by simp [hs])]
  · rw [if_pos (by simp [hf])]
    rfl
end Go.Proofs.YtndajeiecdmhnaaGreat
