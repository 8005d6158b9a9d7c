/- The plain law FireContradicts. No program in sight. -/
import Derived.Test.YtndajeiecdmhnaaM7
set_option linter.unusedVariables false
namespace Go.Proofs.Ytndajeiecdmhnaa

theorem same_id {l : List TLook} (hd : (l.map (·.fID)).Nodup) {x y : TLook} (hx : x ∈ l) (hy : y ∈ l) (h : x.fID = y.fID) : x = y := by
  obtain ⟨i, hi, rfl⟩ := List.mem_iff_getElem.1 hx
  obtain ⟨j, hj, rfl⟩ := List.mem_iff_getElem.1 hy
  rw [List.nodup_iff_pairwise_ne, List.pairwise_iff_getElem] at hd
  rcases Nat.lt_trichotomy i j with h' | h' | h'
  · exact absurd (by rw [List.getElem_map, List.getElem_map]; exact h) (hd i j (by simp; omega) (by simp; omega) h')
  · subst h'; rfl
  · exact absurd (by rw [List.getElem_map, List.getElem_map]; exact h.symm) (hd j i (by simp; omega) (by simp; omega) h')
theorem CheckClash_0 {f : TFire} (hl : f.fLooks.length < 1000000) (a b : Int) : ∃ v, fire_CheckClash f a b = some v ∧ (v = 0 ↔ CheckS f = 0 ∧ ∃ x ∈ f.fLooks, ∃ y ∈ f.fLooks, x.fID = a ∧ y.fID = b ∧ agS f x y = true) := by
  unfold fire_CheckClash
  rw [Check_eq f (by omega), Option.bind_some]
  by_cases hc : CheckS f = 0
  · have ho := CheckS_ok.1 hc
    rw [hc, if_neg (by decide), find_eq (by omega), find_eq (by omega)]
    dsimp only [Option.bind_some]
    rcases idxI_cases f.fLooks (fun x => x.fID == a) with ⟨h1, h2⟩ | ⟨k, hk, hq, hj, h2⟩
    · rw [h2]
      refine ⟨5, rfl, fun h => (by cases h), ?_⟩
      rintro ⟨_, x, hx, y, hy, e1, _⟩
      have := h1 x hx
      simp [e1] at this
    · rcases idxI_cases f.fLooks (fun x => x.fID == b) with ⟨h3, h4⟩ | ⟨j, hj', hq', _, h4⟩
      · rw [h4, if_pos (by simp)]
        refine ⟨5, rfl, fun h => (by cases h), ?_⟩
        rintro ⟨_, x, hx, y, hy, _, e1, _⟩
        have := h3 y hy
        simp [e1] at this
      · rw [h2, h4, if_neg (by simp), guardO_pos (by omega), guardO_pos (by omega), rdL_nat hk, rdL_nat hj', TLook_eta, TLook_eta, against_eq ho.1 (ho.2.2.1 _ (List.getElem_mem _)) (ho.2.2.1 _ (List.getElem_mem _)), Option.bind_some]
        cases ha : agS f f.fLooks[k] f.fLooks[j]
        · refine ⟨8, rfl, fun h => (by cases h), ?_⟩
          rintro ⟨_, x, hx, y, hy, e1, e2, e3⟩
          have ex : x = f.fLooks[k] := same_id ho.2.2.2 hx (List.getElem_mem _) (by rw [e1]; exact (by simpa using hq : f.fLooks[k].fID = a).symm)
          have ey : y = f.fLooks[j] := same_id ho.2.2.2 hy (List.getElem_mem _) (by rw [e2]; exact (by simpa using hq' : f.fLooks[j].fID = b).symm)
          rw [ex, ey, ha] at e3
          cases e3
        · exact ⟨0, rfl, fun _ => ⟨rfl, _, List.getElem_mem _, _, List.getElem_mem _, by simpa using hq, by simpa using hq', ha⟩, fun _ => rfl⟩
  · rw [if_pos (by simpa using hc)]
    exact ⟨_, rfl, fun h => absurd h hc, fun h => absurd h.1 hc⟩
theorem CheckS_rg (f : TFire) : CheckS f = 0 ∨ CheckS f = 1 ∨ CheckS f = 2 ∨ CheckS f = 6 := by
  unfold CheckS
  split
  · split
    · simp
    · unfold LooksS
      rcases findSome_cases (R := errL f.fLooks) (n := f.fLooks.length) 0 with ⟨_, h⟩ | ⟨k, t, _, hR, _, h⟩
      · rw [h]; simp
      · rw [h]; rcases errL_rg hR with rfl | rfl <;> simp
  · simp
theorem FireContradicts_true (p0 : TFire) (p1 : TSpot) (p2 p3 : Int) (h0 : TFire_rg p0) (h1 : TSpot_rg p1) (h2 : Rg_i64 p2) (h3 : Rg_i64 p3) : calxlaw02_FireContradicts p0 p1 p2 p3 = some true := by
  unfold calxlaw02_FireContradicts
  rw [few_eq, Option.bind_some, sanity_true]
  by_cases hf : few p0
  · have hl := few_len hf
    rw [if_neg (by simp [hf]), Clash_eq (by omega) (few_12 hf), Suspects_eq (by omega) (few_12 hf)]
    dsimp only [Option.bind_some]
    by_cases hc : CheckS p0 = 0
    · rw [if_pos hc, if_pos hc, if_neg (by simp), if_neg (by simp), Ends_eq (by omega) (few_12 hf)]
      have ho := CheckS_ok.1 hc
      have h12 := few_12 hf hc
      dsimp only [Option.bind_some]
      by_cases hsp : OkSpot p1
      · have hs0 : spotsS p0 [p1] = 0 := spotsS_0.2 ⟨hc, by intro s hs; rw [List.mem_singleton.1 hs]; exact hsp⟩
        have hask : askS p0 [p1] = if agreeS p0 = true then 0 else 9 := by unfold askS; rw [if_pos hs0]
        obtain ⟨v, hv1, hv2⟩ := CheckClash_0 (f := p0) (by omega) p2 p3
        cases hag : agreeS p0
        · -- two looks contradict each other
          rw [hag] at hask
          have hask' : askS p0 [p1] = 9 := hask
          obtain ⟨p, hp⟩ : ∃ p, clS p0 = some p := by
            cases hcl : clS p0 with
            | none => rw [clS_none, hag] at hcl; cases hcl
            | some p => exact ⟨p, rfl⟩
          obtain ⟨q1, q2, q3, q4⟩ := clS_some ho.2.2.2 hp
          have hCl : ClashS p0 = (p.1.fID, p.2.fID, true) := by unfold ClashS; rw [hp]
          obtain ⟨w, hw1, hw2⟩ := CheckClash_0 (f := p0) (by omega) p.1.fID p.2.fID
          have hw0 : w = 0 := hw2.2 ⟨hc, p.1, q1, p.2, q2, rfl, rfl, q3⟩
          subst hw0
          have hE : EndsS p0 p1 = (⟨⟨0, 0⟩, 0, 0⟩, 9) := by unfold EndsS; rw [hask', if_neg (by decide)]
          rw [hE, hCl, hv1]
          dsimp only [Option.bind_some]
          rw [if_neg (by decide)]
          have hs := @susS_len p0
          have hrun := loop_run (body := calxlaw02_FireContradicts_l1 p0 (p.1.fID, p.2.fID, true, 0) (susS p0, 0)) (fun k => (false, (k : Int))) (susS p0).length (t := .inr (false, ((susS p0).length : Int))) (fun k hk => by
            have hkm : (susS p0)[k] ∈ namS p0 (susQ p0) := by
              have : susS p0 = namS p0 (susQ p0) := by unfold susS; rw [hag]; rfl
              rw [← this]; exact List.getElem_mem hk
            unfold namS at hkm
            obtain ⟨m1, m2⟩ := List.mem_filter.1 hkm
            obtain ⟨x, hx, hxe⟩ := List.mem_map.1 m1
            have hid : rngB (susS p0)[k] = true := by rw [← hxe]; exact id_rng (ho.2.2.1 x (srt_mem.1 hx))
            have hwo := woS_ok12 h12 [(susS p0)[k]]
            have hwc : CheckS (woS p0 [(susS p0)[k]]) = 0 := CheckS_ok.2 hwo.1
            have hcl2 : ClashS (woS p0 [(susS p0)[k]]) = (0, 0, false) := by
              unfold ClashS
              rw [clS_none.2 m2]
            have hcd : (susS p0)[k] = p.1.fID ∨ (susS p0)[k] = p.2.fID := by
              by_cases e1 : (susS p0)[k] = p.1.fID
              · exact .inl e1
              · by_cases e2 : (susS p0)[k] = p.2.fID
                · exact .inr e2
                · exfalso
                  unfold susQ agreeS at m2
                  rw [decide_eq_true_eq] at m2
                  have := m2 p.1 (List.mem_filter.2 ⟨q1, by simp; exact fun h => e1 h.symm⟩) p.2 (List.mem_filter.2 ⟨q2, by simp; exact fun h => e2 h.symm⟩)
                  have e3 : agS (woS p0 [(susS p0)[k]]) p.1 p.2 = agS p0 p.1 p.2 := rfl
                  rw [e3, q3] at this
                  cases this
            have g1 : (0 : Int) ≤ (k : Int) ∧ (k : Int) < (((susS p0).length : Nat) : Int) := by omega
            have hwl : (woS p0 [(susS p0)[k]]).fLooks.length < 1000000 := by have := hwo.2; omega
            unfold calxlaw02_FireContradicts_l1; dsimp only
            rw [ite_t (by omega), guardO_pos g1, rdL_nat hk, Without_eq (by omega) (by simp) (fun i hi => by rw [List.mem_singleton.1 hi]; exact hid), if_pos hc]
            dsimp only [Option.bind_some]
            rw [Clash_eq (by omega) (fun _ => hwo), if_pos hwc, hcl2]
            dsimp only [Option.bind_some]
            rw [if_neg (by decide), guardO_pos g1, guardO_pos g1, w64_succ (by omega)]
            rcases hcd with e | e
            · rw [if_neg (by simp [e])]
              rfl
            · by_cases e1 : (susS p0)[k] = p.1.fID
              · rw [if_neg (by simp [e1])]
                rfl
              · rw [if_pos (by simpa using e1), e]
                simp) (by
            unfold calxlaw02_FireContradicts_l1; dsimp only
            rw [ite_f (by omega)])
          have e0 : loopO (calxlaw02_FireContradicts_l1 p0 (p.1.fID, p.2.fID, true, 0) (susS p0, 0)) (false, 0) = _ := hrun
          rw [hw1, e0]
          have hc9 : ((!(true == ((9 : Int) == 9)) || (!true && (((9 : Int) != 0) || decide (0 < (((susS p0).length : Nat) : Int))))) || (v == 0 && !true)) = false := by simp
          rw [if_neg (by rw [hc9]; decide)]
          rfl
        · rw [hag] at hask
          have hask' : askS p0 [p1] = 0 := hask
          have hcl := clS_none.2 hag
          have hCl : ClashS p0 = (0, 0, false) := by unfold ClashS; rw [hcl]
          have hsu : susS p0 = [] := by unfold susS; rw [hag]; rfl
          have hv0 : v ≠ 0 := by
            intro hv0
            obtain ⟨_, x, hx, y, hy, _, _, hxy⟩ := hv2.1 hv0
            unfold agreeS at hag
            rw [decide_eq_true_eq] at hag
            rw [hag x hx y hy] at hxy
            cases hxy
          have hE : EndsS p0 p1 = (endsS p0 p1, 0) := by unfold EndsS; rw [if_pos hask']
          rw [hE, hCl, hsu, hv1]
          dsimp only [Option.bind_some]
          rw [if_neg (by simp)]
          have hc9 : ((!(false == ((0 : Int) == 9)) || (!false && (((0 : Int) != 0) || decide (0 < ((([] : List Int).length : Nat) : Int))))) || (v == 0 && !false)) = false := by simp [hv0]
          rw [if_neg (by rw [hc9]; decide)]
          have e0 : loopO (calxlaw02_FireContradicts_l1 p0 (0, 0, false, 0) ([], 0)) (false, 0) = some (.inr (false, 0)) := loopO_stop (by
            unfold calxlaw02_FireContradicts_l1; dsimp only
            rw [ite_f (by simp)])
          rw [e0]
          rfl
      · have hs1 : spotsS p0 [p1] = 1 := by
          unfold spotsS
          rw [if_pos hc, if_pos ⟨p1, by simp, hsp⟩]
        have hask : askS p0 [p1] = 1 := by unfold askS; rw [hs1]; rfl
        have hE : EndsS p0 p1 = (⟨⟨0, 0⟩, 0, 0⟩, 1) := by unfold EndsS; rw [hask, if_neg (by decide)]
        rw [hE, if_pos (by rfl)]
    · rw [if_neg hc, if_neg hc]
      dsimp only
      rw [if_neg (by simp), if_pos (by simpa using hc)]
  · rw [if_pos (by simp [hf])]
    rfl
end Go.Proofs.Ytndajeiecdmhnaa
