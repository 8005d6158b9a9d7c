/- Plain laws of sample: what SampleSums' plain function says is true. No program in sight. -/
import Derived.Test.YtepfgdfahinpkaaN7
set_option linter.unusedVariables false
namespace Go.Proofs.Ytepfgdfahinpkaa

theorem others : ∀ (e : List TSpan), (∀ x ∈ e, RgE x) → ∀ x ∈ e, x.fLo ≤ sumLo e ∧ sumLo e - x.fLo ≤ sumHi e - x.fHi
  | [], _, x, hx => by cases hx
  | y :: e, h, x, hx => by
    have hr := sum_rg e (fun z hz => h z (List.mem_cons_of_mem _ hz))
    have hy := h y (List.mem_cons_self ..)
    unfold RgE at hy
    have e1 : sumLo (y :: e) = y.fLo + sumLo e := by simp [sumLo]
    have e2 : sumHi (y :: e) = y.fHi + sumHi e := by simp [sumHi]
    rw [e1, e2]
    rcases List.mem_cons.1 hx with rfl | hx
    · omega
    · have := others e (fun z hz => h z (List.mem_cons_of_mem _ hz)) x hx
      omega
theorem cut_self {e : List TSpan} (h : ∀ x ∈ e, RgE x) : e.map (cutS (sumLo e) (sumHi e) (sumLo e) (sumHi e)) = e := by
  conv => rhs; rw [← List.map_id e]
  refine List.map_congr_left (fun x hx => ?_)
  have h1 := others e h x hx
  have h2 := h x hx
  unfold RgE at h2
  unfold cutS
  cases x with
  | mk lo hi =>
    dsimp only [id] at *
    congr 1 <;> omega
theorem TogS_ok {l : List TBatch} {s : Int} {p : TSpan} (h : (TogS l s p).2 = 0) : l.length ≤ 12 ∧ fe l = 0 ∧ (0 ≤ s ∧ s ≤ 2) ∧ p.fLo ≤ p.fHi ∧ sumLo (endsL l s) ≤ p.fHi ∧ p.fLo ≤ sumHi (endsL l s) := by
  unfold TogS at h
  by_cases h1 : 12 < l.length
  · rw [if_pos h1] at h; cases h
  · rw [if_neg h1] at h
    by_cases h2 : fe l = 0
    · rw [if_neg (by simpa using h2)] at h
      by_cases h3 : ¬ (0 ≤ s ∧ s ≤ 2) ∨ p.fHi < p.fLo
      · rw [if_pos h3] at h; cases h
      · rw [if_neg h3] at h
        by_cases h4 : p.fHi < sumLo (endsL l s) ∨ sumHi (endsL l s) < p.fLo
        · rw [if_pos h4] at h; cases h
        · exact ⟨by omega, h2, by omega, by omega, by omega, by omega⟩
    · rw [if_pos h2] at h
      exact absurd h h2
theorem TogS_is {l : List TBatch} {s : Int} {p : TSpan} (h1 : l.length ≤ 12) (h2 : fe l = 0) (h3 : 0 ≤ s ∧ s ≤ 2) (h4 : p.fLo ≤ p.fHi) :
    TogS l s p = if p.fHi < sumLo (endsL l s) ∨ sumHi (endsL l s) < p.fLo then ([], 9) else ((endsL l s).map (cutS (sumLo (endsL l s)) (sumHi (endsL l s)) (max p.fLo (sumLo (endsL l s))) (min p.fHi (sumHi (endsL l s)))), 0) := by
  unfold TogS
  rw [if_neg (by omega), if_neg (by simpa using h2), if_neg (by omega)]
theorem Sums_l1_run {l : List TBatch} {s : Int} {p : TSpan} (hl : l.length ≤ 12) (hc : ∀ b ∈ l, CheckS b = 0) (hs : 0 ≤ s ∧ s ≤ 2) (E : List TSpan) (hE : E = endsL l s) (hp : p.fLo ≤ p.fHi) (hp1 : sumLo E ≤ p.fHi) (hp2 : p.fLo ≤ sumHi E) (i1 i2 : Int) :
    loopO (calxlaw03_SampleSums_l1 l s (E.map (cutS (sumLo E) (sumHi E) (max p.fLo (sumLo E)) (min p.fHi (sumHi E))), i1) (E, i2)) (false, 0, 0, 0) = some (.inr (false, sumLo E, sumHi E, (l.length : Int))) := by
  have hr : ∀ x ∈ E, RgE x := by rw [hE]; exact endsL_rg hc hs
  have hlen : E.length = l.length := by rw [hE]; unfold endsL; rw [List.length_map]
  have hsum := sum_rg E hr
  have := loop_run (body := calxlaw03_SampleSums_l1 l s (E.map (cutS (sumLo E) (sumHi E) (max p.fLo (sumLo E)) (min p.fHi (sumHi E))), i1) (E, i2)) (fun k => (false, sumLo (E.take k), sumHi (E.take k), (k : Int))) l.length (t := .inr (false, sumLo E, sumHi E, (l.length : Int))) (fun k hk => by
    have hkE : k < E.length := by omega
    have he : E[k] = EndsS l[k] s := by subst hE; simp [endsL]
    have hx := hr E[k] (List.getElem_mem _)
    have ho := others E hr E[k] (List.getElem_mem _)
    have hck := hc l[k] (List.getElem_mem _)
    have ht := sum_rg _ (take_rg hr k)
    rw [List.length_take] at ht
    unfold RgE at hx
    have hS : SortS l[k] s = 0 := Sort_0.2 ⟨hck, hs⟩
    unfold calxlaw03_SampleSums_l1; dsimp only
    rw [ite_t (by omega), guardO_pos (by omega), etaB, rdL_nat hk, sample_Ends_spec, hS, bnd rfl]
    dsimp only
    rw [if_pos rfl, ← he, List.length_map, guardO_pos (by omega), guardO_pos (by omega), rdL_nat hkE, rdL_nat (by rw [List.length_map]; exact hkE), List.getElem_map]
    generalize E[k] = e at *
    generalize hxx : cutS (sumLo E) (sumHi E) (max p.fLo (sumLo E)) (min p.fHi (sumHi E)) e = x
    have b1 : decide (x.fLo < e.fLo) = false := decide_eq_false (by rw [← hxx]; unfold cutS; dsimp only; omega)
    have b2 : decide (e.fHi < x.fHi) = false := decide_eq_false (by rw [← hxx]; unfold cutS; dsimp only; omega)
    have b3 : decide (x.fHi < x.fLo) = false := decide_eq_false (by rw [← hxx]; unfold cutS; dsimp only; omega)
    rw [if_neg (by simp), bnd rfl, w64_id (x := sumLo (E.take k) + e.fLo) (by omega) (by omega), w64_id (x := sumHi (E.take k) + e.fHi) (by omega) (by omega), w64_succ (by omega), b1, b2, b3]
    have t1 : sumLo (E.take (k + 1)) = sumLo (E.take k) + (EndsS l[k] s).fLo := by rw [take_succ hkE, sumLo_snoc]; subst hE; simp [endsL]
    have t2 : sumHi (E.take (k + 1)) = sumHi (E.take k) + (EndsS l[k] s).fHi := by rw [take_succ hkE, sumHi_snoc]; subst hE; simp [endsL]
    have hgE : (0 : Int) ≤ (k : Int) ∧ (k : Int) < ((E.length : Nat) : Int) := by omega
    rw [t1, t2, ← he]
    simp only [guardO_pos hgE]
    simp) (by
    unfold calxlaw03_SampleSums_l1; dsimp only
    rw [ite_f (by omega), ← hlen, List.take_length])
  exact this
theorem Sums_l2_run {l : List TBatch} {p : TSpan} (hl : l.length ≤ 12) (E : List TSpan) (hr : ∀ x ∈ E, RgE x) (hlen : E.length = l.length) (hp : p.fLo ≤ p.fHi) (hp1 : sumLo E ≤ p.fHi) (hp2 : p.fLo ≤ sumHi E) (i1 i2 i3 : Int) :
    loopO (calxlaw03_SampleSums_l2 l p (E.map (cutS (sumLo E) (sumHi E) (max p.fLo (sumLo E)) (min p.fHi (sumHi E))), i1) (E, i2) (false, sumLo E, sumHi E, i3)) (false, 0) = some (.inr (false, (l.length : Int))) := by
  have hsum := sum_rg E hr
  have := loop_run (body := calxlaw03_SampleSums_l2 l p (E.map (cutS (sumLo E) (sumHi E) (max p.fLo (sumLo E)) (min p.fHi (sumHi E))), i1) (E, i2) (false, sumLo E, sumHi E, i3)) (fun k => (false, (k : Int))) l.length (t := .inr (false, (l.length : Int))) (fun k hk => by
    have hkE : k < E.length := by omega
    have hx := hr E[k] (List.getElem_mem _)
    have ho := others E hr E[k] (List.getElem_mem _)
    unfold RgE at hx
    unfold calxlaw03_SampleSums_l2; dsimp only
    rw [ite_t (by omega), List.length_map, rdL_nat hkE, rdL_nat (by rw [List.length_map]; exact hkE), List.getElem_map]
    generalize E[k] = e at *
    generalize hxx : cutS (sumLo E) (sumHi E) (max p.fLo (sumLo E)) (min p.fHi (sumHi E)) e = x
    have xr : 0 ≤ x.fLo ∧ x.fLo ≤ 50 ∧ 0 ≤ x.fHi ∧ x.fHi ≤ 50 := by rw [← hxx]; unfold cutS; dsimp only; omega
    have hg : (0 : Int) ≤ (k : Int) ∧ (k : Int) < ((E.length : Nat) : Int) := by omega
    have w1 : w64 (sumHi E - e.fHi) = sumHi E - e.fHi := w64_id (by omega) (by omega)
    have w2 : w64 (sumLo E - e.fLo) = sumLo E - e.fLo := w64_id (by omega) (by omega)
    have w3 : w64 (x.fLo + (sumHi E - e.fHi)) = x.fLo + (sumHi E - e.fHi) := w64_id (by omega) (by omega)
    have w4 : w64 (x.fLo + (sumLo E - e.fLo)) = x.fLo + (sumLo E - e.fLo) := w64_id (by omega) (by omega)
    have w5 : w64 (x.fHi + (sumHi E - e.fHi)) = x.fHi + (sumHi E - e.fHi) := w64_id (by omega) (by omega)
    have w6 : w64 (x.fHi + (sumLo E - e.fLo)) = x.fHi + (sumLo E - e.fLo) := w64_id (by omega) (by omega)
    have w7 : w64 (x.fLo - 1) = x.fLo - 1 := w64_id (by omega) (by omega)
    have w8 : w64 (x.fLo - 1 + (sumHi E - e.fHi)) = x.fLo - 1 + (sumHi E - e.fHi) := w64_id (by omega) (by omega)
    have w9 : w64 (x.fHi + 1) = x.fHi + 1 := w64_id (by omega) (by omega)
    have wa : w64 (x.fHi + 1 + (sumLo E - e.fLo)) = x.fHi + 1 + (sumLo E - e.fLo) := w64_id (by omega) (by omega)
    have d1 : decide (x.fLo + (sumHi E - e.fHi) < p.fLo) = false := decide_eq_false (by rw [← hxx]; unfold cutS; dsimp only; omega)
    have d2 : decide (p.fHi < x.fLo + (sumLo E - e.fLo)) = false := decide_eq_false (by rw [← hxx]; unfold cutS; dsimp only; omega)
    have d3 : decide (x.fHi + (sumHi E - e.fHi) < p.fLo) = false := decide_eq_false (by rw [← hxx]; unfold cutS; dsimp only; omega)
    have d4 : decide (p.fHi < x.fHi + (sumLo E - e.fLo)) = false := decide_eq_false (by rw [← hxx]; unfold cutS; dsimp only; omega)
    have d5 : (if decide (e.fLo < x.fLo) = true then some (decide (p.fLo ≤ x.fLo - 1 + (sumHi E - e.fHi))) else some false) = some false := by
      by_cases c : e.fLo < x.fLo
      · rw [ite_t c, decide_eq_false (by rw [← hxx] at c ⊢; unfold cutS at c ⊢; dsimp only at c ⊢; omega)]
      · rw [ite_f c]
    have d6 : (if decide (x.fHi < e.fHi) = true then some (decide (x.fHi + 1 + (sumLo E - e.fLo) ≤ p.fHi)) else some false) = some false := by
      by_cases c : x.fHi < e.fHi
      · rw [ite_t c, decide_eq_false (by rw [← hxx] at c ⊢; unfold cutS at c ⊢; dsimp only at c ⊢; omega)]
      · rw [ite_f c]
    simp only [guardO_pos hg, w1, w2, w3, w4, w5, w6, w7, w8, w9, wa, d1, d2, d3, d4, d5, d6, Option.bind_some, Bool.false_eq_true, if_false, w64_succ (show k < 9223372036854775807 by omega)]) (by
    unfold calxlaw03_SampleSums_l2; dsimp only
    rw [ite_f (by omega)])
  exact this
theorem Sums_l3_run {X Y : List TSpan} (hl : Y.length ≤ 12) (hlen : X.length = Y.length) (h : ∀ k (h1 : k < X.length) (h2 : k < Y.length), X[k].fLo ≤ Y[k].fLo ∧ Y[k].fHi ≤ X[k].fHi) (i1 i2 : Int) :
    loopO (calxlaw03_SampleSums_l3 (X, i1) (Y, i2)) (false, 0) = some (.inr (false, (Y.length : Int))) := by
  have := loop_run (body := calxlaw03_SampleSums_l3 (X, i1) (Y, i2)) (fun k => (false, (k : Int))) Y.length (t := .inr (false, (Y.length : Int))) (fun k hk => by
    have := h k (by omega) hk
    unfold calxlaw03_SampleSums_l3; dsimp only
    rw [ite_t (by omega), guardO_pos (by omega), guardO_pos (by omega), guardO_pos (by omega), guardO_pos (by omega), rdL_nat hk, rdL_nat (show k < X.length by omega), ite_f (by omega), bnd rfl, ite_f (by omega), w64_succ (by omega)]) (by
    unfold calxlaw03_SampleSums_l3; dsimp only
    rw [ite_f (by omega)])
  exact this
theorem SampleSums_true (l : List TBatch) (s : Int) (p : TSpan) (lo hi : Int) (_ : Rg_list TBatch_rg l) (_ : Rg_i64 s) (hp : TSpan_rg p) (hlo : Rg_u8 lo) (hhi : Rg_u8 hi) : calxlaw03_SampleSums l s p lo hi = some true := by
  unfold Rg_u8 at hlo hhi
  unfold calxlaw03_SampleSums
  rw [head_true, bnd rfl]
  by_cases hl : 6 < l.length
  · rw [ite_t (by omega)]
  · rw [ite_f (by omega), Together_spec, bnd rfl, Together_spec, bnd rfl]
    by_cases h0 : (TogS l s p).2 = 0
    · obtain ⟨a1, a2, a3, a4, a5, a6⟩ := TogS_ok h0
      have hc := fe_0 l a2
      have hr := endsL_rg hc a3
      have hlen : (endsL l s).length = l.length := by unfold endsL; rw [List.length_map]
      have hsum := sum_rg _ hr
      have e1 := TogS_is a1 a2 a3 a4
      rw [if_neg (by omega)] at e1
      have e2 := TogS_is (p := ⟨-1, 1000⟩) a1 a2 a3 (by decide)
      dsimp only at e2
      rw [if_neg (by omega), show max (-1) (sumLo (endsL l s)) = sumLo (endsL l s) by omega, show min 1000 (sumHi (endsL l s)) = sumHi (endsL l s) by omega, cut_self hr] at e2
      rw [e1, e2]
      dsimp only
      rw [if_neg (by simp), List.length_map, hlen, if_neg (by simp), Sums_l1_run a1 hc a3 _ rfl a4 a5 a6]
      dsimp only [Option.bind_some]
      rw [Sums_l2_run a1 _ hr hlen a4 a5 a6]
      dsimp only [Option.bind_some]
      by_cases hb : p.fLo < -1000 ∨ 2000 < p.fHi ∨ 1000 < w64 (p.fHi - p.fLo)
      · rw [if_pos (by simp; omega)]
      · have w1 : w64 (p.fHi - p.fLo) = p.fHi - p.fLo := w64_id (by omega) (by omega)
        rw [if_neg (by simp; omega)]
        rw [w1] at hb
        have w2 : w64 (p.fHi - p.fLo + 1) = p.fHi - p.fLo + 1 := w64_id (by omega) (by omega)
        have w3 : w64 lo = lo := w64_id (by omega) (by omega)
        have w4 : w64 hi = hi := w64_id (by omega) (by omega)
        rw [w1, w2, w3, w4]
        obtain ⟨d, hd⟩ : ∃ d, d = Int.tmod lo (p.fHi - p.fLo + 1) := ⟨_, rfl⟩
        have hd0 : 0 ≤ d ∧ d < p.fHi - p.fLo + 1 := by
          rw [hd]
          exact ⟨Int.tmod_nonneg _ (by omega), Int.tmod_lt_of_pos _ (by omega)⟩
        rw [← hd]
        have w5 : w64 (p.fLo + d) = p.fLo + d := w64_id (by omega) (by omega)
        have w6 : w64 (p.fHi - (p.fLo + d)) = p.fHi - (p.fLo + d) := w64_id (by omega) (by omega)
        have w7 : w64 (p.fHi - (p.fLo + d) + 1) = p.fHi - (p.fLo + d) + 1 := w64_id (by omega) (by omega)
        rw [w5, w6, w7]
        obtain ⟨q, hq⟩ : ∃ q, q = Int.tmod hi (p.fHi - (p.fLo + d) + 1) := ⟨_, rfl⟩
        have hq0 : 0 ≤ q ∧ q < p.fHi - (p.fLo + d) + 1 := by
          rw [hq]
          exact ⟨Int.tmod_nonneg _ (by omega), Int.tmod_lt_of_pos _ (by omega)⟩
        rw [← hq, w64_id (x := p.fLo + d + q) (by omega) (by omega), guardO_pos (by omega), guardO_pos (by omega), Together_spec, bnd rfl]
        have e3 := TogS_is (p := ⟨p.fLo + d, p.fLo + d + q⟩) a1 a2 a3 (by dsimp only; omega)
        dsimp only at e3
        by_cases hcl : p.fLo + d + q < sumLo (endsL l s) ∨ sumHi (endsL l s) < p.fLo + d
        · rw [if_pos hcl] at e3
          rw [e3, if_pos (by simp)]
          rfl
        · rw [if_neg hcl] at e3
          rw [e3]
          dsimp only
          rw [if_neg (by simp), List.length_map, if_neg (by simp [hlen]), Sums_l3_run (by rw [List.length_map]; omega) (by rw [List.length_map, List.length_map]) (fun k h1 h2 => by
            rw [List.length_map] at h1
            have hx := hr _ (List.getElem_mem h1)
            have ho := others _ hr _ (List.getElem_mem h1)
            unfold RgE at hx
            rw [List.getElem_map, List.getElem_map]
            unfold cutS
            dsimp only
            omega)]
          rfl
    · rw [if_pos (by simp [h0])]
      simp [h0]
end Go.Proofs.Ytepfgdfahinpkaa
