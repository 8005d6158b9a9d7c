/- The plain law FireSinks. No program in sight. -/
import Derived.Test.YtndajeiecdmhnaaM9
import Derived.Test.YtndajeiecdmhnaaMb
set_option linter.unusedVariables false
namespace Go.Proofs.Ytndajeiecdmhnaa

/-! ### Hotter burns more -/
def LeB (s t : Int × Int × Int × Int) : Prop := s.1 ≤ t.1 ∧ s.2.1 ≤ t.2.1 ∧ s.2.2.1 ≤ t.2.2.1 ∧ s.2.2.2 ≤ t.2.2.2 ∧ 0 ≤ s.1 ∧ 0 ≤ t.1
theorem LeB_step {s t : Int × Int × Int × Int} {a b na nb : Int} (h : LeB s t) (hab : a - na ≤ b - nb) : LeB (burnStep na s a) (burnStep nb t b) := by
  unfold LeB at h ⊢
  unfold burnStep
  split <;> split <;> dsimp only <;> omega
theorem LeB_fold {na nb : Int} : ∀ (l m : List Int) (s t : Int × Int × Int × Int), l.length = m.length → (∀ k, k < l.length → l.getD k 0 - na ≤ m.getD k 0 - nb) → LeB s t → LeB (l.foldl (burnStep na) s) (m.foldl (burnStep nb) t)
  | [], [], s, t, _, _, h => h
  | a :: l, b :: m, s, t, hl, hk, h => by
    have h0 := hk 0 (by simp)
    exact LeB_fold l m _ _ (by simpa using hl) (fun k hk' => by have := hk (k + 1) (by simpa using hk'); simpa using this) (LeB_step h (by simpa using h0))
  | [], _ :: _, _, _, h, _, _ => by cases h
  | _ :: _, [], _, _, h, _, _ => by cases h
theorem row_le (need : Int) : ∀ (l : List Int) (s : Int × Int × Int × Int), s.1 ≤ s.2.1 → s.2.2.1 ≤ s.2.1 → 0 ≤ s.2.1 → (l.foldl (burnStep need) s).2.2.1 ≤ (l.foldl (burnStep need) s).2.1
  | [], s, h1, h2, h3 => h2
  | n :: l, s, h1, h2, h3 => by
    refine row_le need l _ ?_ ?_ ?_ <;> (unfold burnStep; split <;> dsimp only <;> omega)
def UnderQ (a b : TBurn) : Prop := a.fHours ≤ b.fHours ∧ a.fRow ≤ b.fRow ∧ a.fSum ≤ b.fSum ∧ a.fRow ≤ a.fHours
instance (a b : TBurn) : Decidable (UnderQ a b) := by unfold UnderQ; infer_instance
theorem under_eq (a b : TBurn) : calxlaw02_under a b = some (decide (UnderQ a b)) := by
  unfold calxlaw02_under
  refine congrArg some ?_
  rw [Bool.eq_iff_iff]
  simp only [Bool.and_eq_true, decide_eq_true_eq]
  unfold UnderQ
  omega
theorem under_of {l m : List Int} {na nb : Int} (hl : l.length = m.length) (h : ∀ k, k < l.length → l.getD k 0 - na ≤ m.getD k 0 - nb) : UnderQ (BurnS l na) (BurnS m nb) := by
  have h1 := LeB_fold (na := na) (nb := nb) l m (0, 0, 0, 0) (0, 0, 0, 0) hl h (by unfold LeB; decide)
  have h2 := row_le na l (0, 0, 0, 0) (by decide) (by decide) (by decide)
  unfold LeB at h1
  unfold UnderQ BurnS burnF
  exact ⟨h1.2.1, h1.2.2.1, h1.2.2.2.1, h2⟩

/-! ### The spans are the steps that are hot enough -/
theorem cover_fold (need : Int) : ∀ (l pre : List Int) (s : Nat × List TSpan), s.1 = pre.length → (∀ t ∈ s.2, t.fLo ≤ t.fHi ∧ t.fHi < (pre.length : Int)) → (∀ n : Nat, (∃ t ∈ s.2, t.fLo ≤ (n : Int) ∧ (n : Int) ≤ t.fHi) ↔ (n < pre.length ∧ need ≤ pre.getD n 0)) →
    ∀ n : Nat, (∃ t ∈ (l.foldl (hotStep need) s).2, t.fLo ≤ (n : Int) ∧ (n : Int) ≤ t.fHi) ↔ (n < (pre ++ l).length ∧ need ≤ (pre ++ l).getD n 0)
  | [], pre, s, h1, h2, h3 => by simpa using h3
  | x :: l, pre, s, h1, h2, h3 => by
    have e : pre ++ x :: l = (pre ++ [x]) ++ l := by simp
    rw [e, List.foldl_cons]
    have hlen : (pre ++ [x]).length = pre.length + 1 := by simp
    have hget : ∀ n, (n < pre.length + 1 ∧ need ≤ (pre ++ [x]).getD n 0) ↔ ((n < pre.length ∧ need ≤ pre.getD n 0) ∨ (n = pre.length ∧ need ≤ x)) := by
      intro n
      rcases Nat.lt_trichotomy n pre.length with hn | hn | hn
      · have : (pre ++ [x]).getD n 0 = pre.getD n 0 := by
          rw [List.getD_eq_getElem?_getD, List.getElem?_append_left hn, ← List.getD_eq_getElem?_getD]
        rw [this]
        constructor
        · exact fun h => .inl ⟨hn, h.2⟩
        · rintro (h | h)
          · exact ⟨by omega, h.2⟩
          · omega
      · subst hn
        have : (pre ++ [x]).getD pre.length 0 = x := by
          rw [List.getD_eq_getElem?_getD, List.getElem?_append_right (Nat.le_refl _), Nat.sub_self]; rfl
        rw [this]
        constructor
        · exact fun h => .inr ⟨rfl, h.2⟩
        · rintro (h | h)
          · omega
          · exact ⟨by omega, h.2⟩
      · constructor
        · intro h; omega
        · rintro (h | h) <;> omega
    refine cover_fold need l (pre ++ [x]) (hotStep need s x) ?_ ?_ ?_
    · unfold hotStep; rw [hlen, ← h1]
    · rw [hlen]
      unfold hotStep
      dsimp only
      split
      · intro t ht; have := h2 t ht; omega
      · rcases last_cases s.2 with ⟨ho, hg⟩ | ⟨m, u, ho, hg, hd⟩
        · rw [hg, ho]
          intro t ht
          simp at ht
          subst ht
          dsimp only
          omega
        · rw [hg, hd]
          have hu := h2 u (by rw [ho]; simp)
          dsimp only
          split
          · intro t ht
            rcases List.mem_append.1 ht with ht | ht
            · have := h2 t (by rw [ho]; simp [ht]); omega
            · rw [List.mem_singleton.1 ht]; dsimp only; omega
          · intro t ht
            rcases List.mem_append.1 ht with ht | ht
            · have := h2 t ht; omega
            · rw [List.mem_singleton.1 ht]; dsimp only; omega
    · intro n
      rw [hlen, hget n, ← h3 n]
      unfold hotStep
      dsimp only
      split
      · rename_i hx
        constructor
        · exact fun h => .inl h
        · rintro (h | h)
          · exact h
          · omega
      · rename_i hx
        rcases last_cases s.2 with ⟨ho, hg⟩ | ⟨m, u, ho, hg, hd⟩
        · rw [hg, ho]
          dsimp only
          constructor
          · rintro ⟨t, ht, h⟩
            simp at ht
            subst ht
            dsimp only at h
            exact .inr ⟨by omega, by omega⟩
          · rintro (⟨t, ht, h⟩ | h)
            · cases ht
            · exact ⟨_, by simp; rfl, by dsimp only; omega⟩
        · rw [hg, hd]
          have hu := h2 u (by rw [ho]; simp)
          dsimp only
          split
          · rename_i hh
            constructor
            · rintro ⟨t, ht, h⟩
              rcases List.mem_append.1 ht with ht | ht
              · exact .inl ⟨t, by rw [ho]; simp [ht], h⟩
              · rw [List.mem_singleton.1 ht] at h
                dsimp only at h
                by_cases hn : n = pre.length
                · exact .inr ⟨hn, by omega⟩
                · exact .inl ⟨u, by rw [ho]; simp, by omega⟩
            · rintro (⟨t, ht, h⟩ | h)
              · rw [ho] at ht
                rcases List.mem_append.1 ht with ht | ht
                · exact ⟨t, by simp [ht], h⟩
                · rw [List.mem_singleton.1 ht] at h
                  exact ⟨⟨u.fLo, s.1⟩, by simp, by dsimp only; omega⟩
              · exact ⟨⟨u.fLo, s.1⟩, by simp, by dsimp only; omega⟩
          · constructor
            · rintro ⟨t, ht, h⟩
              rcases List.mem_append.1 ht with ht | ht
              · exact .inl ⟨t, ht, h⟩
              · rw [List.mem_singleton.1 ht] at h
                dsimp only at h
                exact .inr ⟨by omega, by omega⟩
            · rintro (⟨t, ht, h⟩ | h)
              · exact ⟨t, by simp [ht], h⟩
              · exact ⟨⟨s.1, s.1⟩, by simp, by dsimp only; omega⟩
theorem cover {l : List Int} {need : Int} (n : Nat) : (∃ t ∈ hotS l need, t.fLo ≤ (n : Int) ∧ (n : Int) ≤ t.fHi) ↔ (n < l.length ∧ need ≤ l.getD n 0) := by
  have := cover_fold need l [] (0, []) rfl (by simp) (by simp) n
  simpa [hotS] using this
theorem lwithin_eq {l : List TSpan} (hl : l.length < 1000000) (n : Int) : calxlaw02_within l n = some (decide (∃ t ∈ l, t.fLo ≤ n ∧ n ≤ t.fHi)) := by
  unfold calxlaw02_within
  have := loop_search (body := calxlaw02_within_l1 l n) (fun k => (false, (k : Int))) l.length (fun k => if (l.getD k default).fLo ≤ n ∧ n ≤ (l.getD k default).fHi then some (Sum.inl (true, (k : Int))) else none) (t0 := .inr (false, (l.length : Int))) (fun k hk => by
    have c1 : decide ((k : Int) < ((l.length : Nat) : Int)) = true := decide_eq_true (by omega)
    have c2 : (0 : Int) ≤ (k : Int) ∧ (k : Int) < ((l.length : Nat) : Int) := by omega
    unfold calxlaw02_within_l1; dsimp only
    simp only [c1, if_true, guardO_pos c2, rdL_nat hk, getD_lt hk, w64_succ (show k < 9223372036854775807 by omega)]
    by_cases e1 : l[k].fLo ≤ n <;> by_cases e2 : n ≤ l[k].fHi <;> simp [e1, e2]) (by
    unfold calxlaw02_within_l1; dsimp only
    rw [ite_f (by omega)])
  have h0 : loopO (calxlaw02_within_l1 l n) (false, 0) = _ := this
  rw [h0, Option.bind_some]
  rcases findSome_cases (R := fun k => if (l.getD k default).fLo ≤ n ∧ n ≤ (l.getD k default).fHi then some (Sum.inl (true, (k : Int)) : (Bool × Int) ⊕ (Bool × Int)) else none) (n := l.length) (.inr (false, (l.length : Int))) with ⟨hn, h4⟩ | ⟨j, t, hj, hR, hj', h4⟩
  · rw [h4, decide_eq_false]
    rintro ⟨t, ht, hc⟩
    obtain ⟨k, hk, rfl⟩ := List.mem_iff_getElem.1 ht
    have := hn k hk
    rw [getD_lt hk, if_pos hc] at this
    cases this
  · rw [getD_lt hj] at hR
    split at hR
    · rename_i e
      cases hR
      rw [h4, decide_eq_true ⟨_, List.getElem_mem hj, e⟩]
    · cases hR
theorem FireSinks_true (p0 : TFire) (p1 : List TSpot) (p2 : List Int) (p3 p4 : Int) (h0 : TFire_rg p0) (h1 : Rg_list TSpot_rg p1) (h2 : Rg_list Rg_i64 p2) (h3 : Rg_i64 p3) (h4 : Rg_u8 p4) : calxlaw02_FireSinks p0 p1 p2 p3 p4 = some true := by
  unfold calxlaw02_FireSinks
  rw [few_eq, Option.bind_some, sanity_true]
  by_cases hf : few p0 ∧ p1.length ≤ 20 ∧ p2.length ≤ 40
  · obtain ⟨hf, hp1, hp2⟩ := hf
    have hl := few_len hf
    rw [if_neg (by simp [hf]; omega), Burnt_eq (by omega) (by omega) (few_12 hf), Surely_eq (by omega) (by omega) (few_12 hf), Possibly_eq (by omega) (by omega) (few_12 hf)]
    dsimp only [Option.bind_some]
    by_cases hw : WalkS p0 p1 p3 = 0
    · obtain ⟨hc, hpa, hnd, hag⟩ := WalkS_0.1 hw
      have h12 := few_12 hf hc
      have ho := (PathS_0 hpa).2
      have hok := h12.1
      rw [if_pos hw, if_pos hw, if_pos hw, if_neg (by simp), if_neg (by simp), Fits_eq (by omega) (by omega) (by omega) (few_12 hf)]
      dsimp only [Option.bind_some]
      unfold OkHeat at hnd
      unfold Rg_u8 at h4
      have hmin : min 1500 (w64 (p3 + w64 p4)) = min 1500 (p3 + p4) := by rw [w64_id (x := p4) (by omega) (by omega), w64_id (by omega) (by omega)]
      have hw2 : WalkS p0 p1 (min 1500 (p3 + p4)) = 0 := WalkS_0.2 ⟨hc, hpa, by unfold OkHeat; omega, hag⟩
      have hlh : ∀ k, k < (p1.map (loS p0)).length → (p1.map (loS p0)).getD k 0 ≤ (p1.map (hiS p0)).getD k 0 := by
        intro k hk
        rw [List.length_map] at hk
        rw [getD_map _ hk, getD_map _ hk, getD_lt hk]
        exact lo_hi hok hag (ho _ (List.getElem_mem hk))
      have u1 : UnderQ (BurnS (p1.map (loS p0)) p3) (BurnS (p1.map (hiS p0)) p3) := under_of (by simp) (fun k hk => by have := hlh k hk; omega)
      have u2 : UnderQ (BurnS (p1.map (loS p0)) (min 1500 (p3 + p4))) (BurnS (p1.map (loS p0)) p3) := under_of rfl (fun k hk => by omega)
      have u3 : UnderQ (BurnS (p1.map (hiS p0)) (min 1500 (p3 + p4))) (BurnS (p1.map (hiS p0)) p3) := under_of rfl (fun k hk => by omega)
      have hB := Burnt_eq (f := p0) (l := p1) (need := min 1500 (p3 + p4)) (by omega) (by omega) (few_12 hf)
      rw [if_pos hw2] at hB
      by_cases hfit : ((FitsS p0 p1 p2).2 == 0 && (FitsS p0 p1 p2).1) = true
      · obtain ⟨g1, g2, g3⟩ := fits_in hfit
        have hpt : ∀ k, k < p1.length → (p1.map (loS p0)).getD k 0 ≤ p2.getD k 0 ∧ p2.getD k 0 ≤ (p1.map (hiS p0)).getD k 0 := by
          intro k hk
          rw [getD_map _ hk, getD_map _ hk]
          exact (g3 k hk).1
        have v1 : UnderQ (BurnS (p1.map (loS p0)) p3) (BurnS p2 p3) := under_of (by simp [g1]) (fun k hk => by have := hpt k (by simpa using hk); omega)
        have v2 : UnderQ (BurnS p2 p3) (BurnS (p1.map (hiS p0)) p3) := under_of (by simp [g1]) (fun k hk => by have := hpt k (by omega); omega)
        have hrun := loop_run (body := calxlaw02_FireSinks_l1 p1 p2 p3 (hotS (p1.map (loS p0)) p3, 0) (hotS (p1.map (hiS p0)) p3, 0)) (fun k => (false, (k : Int))) p1.length (t := .inr (false, (p1.length : Int))) (fun k hk => by
          have c5 : (0 : Int) ≤ (k : Int) ∧ (k : Int) < ((p2.length : Nat) : Int) := by omega
          have k1 := hotS_len (p1.map (loS p0)) p3
          have k2 := hotS_len (p1.map (hiS p0)) p3
          rw [List.length_map] at k1 k2
          have hk2 := hpt k hk
          rw [getD0 (show k < p2.length by omega)] at hk2
          unfold calxlaw02_FireSinks_l1; dsimp only
          rw [ite_t (by omega), guardO_pos c5, rdL_nat (show k < p2.length by omega), lwithin_eq (by omega), lwithin_eq (by omega)]
          dsimp only [Option.bind_some]
          have e1 : decide (∃ t ∈ hotS (p1.map (loS p0)) p3, t.fLo ≤ (k : Int) ∧ (k : Int) ≤ t.fHi) = decide (p3 ≤ (p1.map (loS p0)).getD k 0) := by
            rw [Bool.eq_iff_iff, decide_eq_true_eq, decide_eq_true_eq, cover k]
            exact ⟨fun h => h.2, fun h => ⟨by simpa using hk, h⟩⟩
          have e2 : decide (∃ t ∈ hotS (p1.map (hiS p0)) p3, t.fLo ≤ (k : Int) ∧ (k : Int) ≤ t.fHi) = decide (p3 ≤ (p1.map (hiS p0)).getD k 0) := by
            rw [Bool.eq_iff_iff, decide_eq_true_eq, decide_eq_true_eq, cover k]
            exact ⟨fun h => h.2, fun h => ⟨by simpa using hk, h⟩⟩
          rw [e1, e2, w64_succ (by omega)]
          by_cases a1 : p3 ≤ p2[k]
          · have a2 : p3 ≤ (p1.map (hiS p0)).getD k 0 := by omega
            simp only [decide_eq_true a1, decide_eq_true a2]
            simp
          · have a2 : ¬ p3 ≤ (p1.map (loS p0)).getD k 0 := by omega
            simp only [decide_eq_false a1, decide_eq_false a2]
            simp) (by
          unfold calxlaw02_FireSinks_l1; dsimp only
          rw [ite_f (by omega)])
        have e0 : loopO (calxlaw02_FireSinks_l1 p1 p2 p3 (hotS (p1.map (loS p0)) p3, 0) (hotS (p1.map (hiS p0)) p3, 0)) (false, 0) = _ := hrun
        rw [if_pos hfit, rBurn_eq (by omega) g2 (by unfold OkHeat; omega), Option.bind_some, under_eq, Option.bind_some, decide_eq_true v1, under_eq, decide_eq_true v2]
        dsimp only [Option.bind_some]
        rw [if_neg (by simp), Option.bind_some, if_neg (by simp), e0, hmin, hB]
        dsimp only [Option.bind_some]
        rw [under_eq, under_eq, under_eq, decide_eq_true u1, decide_eq_true u2, decide_eq_true u3]
        simp
      · rw [if_neg hfit, hmin, hB]
        dsimp only [Option.bind_some]
        rw [under_eq, under_eq, under_eq, decide_eq_true u1, decide_eq_true u2, decide_eq_true u3]
        simp
    · rw [if_neg hw, if_neg hw, if_neg hw]
      dsimp only
      rw [if_neg (by simp), if_pos (by simpa using hw)]
  · rw [if_pos]
    · rfl
    · by_cases h5 : few p0
      · have : ¬ (p1.length ≤ 20 ∧ p2.length ≤ 40) := fun hc => hf ⟨h5, hc⟩
        simp [h5]
        omega
      · simp [h5]
end Go.Proofs.Ytndajeiecdmhnaa
