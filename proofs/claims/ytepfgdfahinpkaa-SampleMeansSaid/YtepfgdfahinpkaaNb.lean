/- Plain laws of sample: what SampleMeans' plain function says is true. No program in sight. -/
import Derived.Test.YtepfgdfahinpkaaNa
set_option linter.unusedVariables false
namespace Go.Proofs.Ytepfgdfahinpkaa

theorem totP_0 (w : List Int) (k : Nat) : totP w 0 k = rs k fun i => (i : Int) * w.getD i 0 := by
  unfold totP
  exact rs_congr k (fun i _ => by rw [Int.sub_zero])
theorem Means_l2_run {w : List Int} (h : Gd w) (e : Int) : loopO (calxlaw03_SampleMeans_l2 (w, e)) (0, 0, 0) = some (totP w 0 w.length, w.sum, (w.length : Int)) := by
  have h' := h
  obtain ⟨hlen, h0, hs⟩ := h'
  have := loop_run (body := calxlaw03_SampleMeans_l2 (w, e)) (fun k => (totP w 0 k, (w.take k).sum, (k : Int))) w.length (t := (totP w 0 w.length, w.sum, (w.length : Int))) (fun k hk => by
    have b1 := totP_bd h (less := 0) (by omega) k (by omega)
    have b2 := totP_bd h (less := 0) (by omega) (k + 1) (by omega)
    have a1 := take_sum_le h0 (k + 1)
    have a2 := take_sum_le h0 k
    have a3 := h0 w[k] (List.getElem_mem _)
    have a4 := mul_bd (a := (k : Int)) (c := 51) (by decide) (by omega) (by omega) a3
    have a6 := sum_nn (l := w.take k) (fun x hx => h0 x (List.mem_of_mem_take hx))
    have a5 : w[k] ≤ 495918532948104 := by
      rw [take_sum_succ hk] at a1
      omega
    have e : totP w 0 (k + 1) = totP w 0 k + (k : Int) * w[k] := by unfold totP; rw [rs_succ, getD_get hk, Int.sub_zero]
    unfold calxlaw03_SampleMeans_l2; dsimp only
    rw [ite_t (by omega), guardO_pos (by omega), guardO_pos (by omega), rdL_nat hk, w64_id (x := (k : Int) * w[k]) (by omega) (by omega), w64_id (x := totP w 0 k + _) (by omega) (by omega), w64_id (x := (w.take k).sum + _) (by omega) (by omega), w64_succ (by omega), e, take_sum_succ hk]) (by
    unfold calxlaw03_SampleMeans_l2; dsimp only
    rw [ite_f (by omega), List.take_length])
  exact this
theorem div_back {T g q : Nat} (h : T = g * q) (hq : 0 < q) : T % q = 0 ∧ T / q = g := by
  subst h
  exact ⟨Nat.mul_mod_left g q, Nat.mul_div_cancel g hq⟩
theorem w64_le {G T : Nat} (h : G ≤ T) (h' : T ≤ 24795926647405200) : w64 (G : Int) = (G : Int) := w64_id (by omega) (by omega)
theorem Means_step {b : TBatch} (hc : CheckS b = 0) {s : Int} (hs : 0 ≤ s ∧ s ≤ 2) (all sum : Int) (hall : 0 < s → all = (totN b : Int)) (hsum : 0 ≤ sum ∧ sum ≤ 4 * (50 * 495918532948104)) :
    calxlaw03_SampleMeans_l1 b (false, all, sum, s) = some (.inl (false, (totN b : Int), sum + momI b s, s + 1)) := by
  have h : SortS b s = 0 := Sort_0.2 ⟨hc, hs⟩
  have hb := Check_bd hc
  have h1 := mom_nat hc hs
  have h2 := tot_pos hc
  have h3 := totN_le (Check_okB hc)
  have h4 := mom_seen hc hs
  have h5 := mom_ends hc hs
  have h6 := Ends_rg hc hs
  have hg := WtS_Gd hc hs
  have hsn : 0 ≤ sel3 b.fSeen.x0 b.fSeen.x1 b.fSeen.x2 s ∧ sel3 b.fSeen.x0 b.fSeen.x1 b.fSeen.x2 s ≤ 50 := by
    have h3 : s = 0 ∨ s = 1 ∨ s = 2 := by omega
    rcases h3 with rfl | rfl | rfl <;> simp only [sel3_0, sel3_1, sel3_2] <;> omega
  have hsnT : 0 ≤ sel3 b.fSeen.x0 b.fSeen.x1 b.fSeen.x2 s * (totN b : Int) := Int.mul_nonneg hsn.1 (by omega)
  obtain ⟨p, q, hr, hq, hp1, hq1, hple, hqle⟩ := RatS_is (a := (momI b s).toNat) (b := totN b) (by omega)
  obtain ⟨d1, d2⟩ := div_back hq1 hq
  obtain ⟨lf, hlf⟩ : ∃ lf : Nat, (lf : Int) = b.fBarrows - (b.fSeen.x0 + b.fSeen.x1 + b.fSeen.x2) := ⟨(b.fBarrows - (b.fSeen.x0 + b.fSeen.x1 + b.fSeen.x2)).toNat, by omega⟩
  have elf : w64 (w64 (w64 (b.fBarrows - b.fSeen.x0) - b.fSeen.x1) - b.fSeen.x2) = (lf : Int) := by
    rw [w64_id (x := b.fBarrows - b.fSeen.x0) (by omega) (by omega), w64_id (x := b.fBarrows - b.fSeen.x0 - b.fSeen.x1) (by omega) (by omega), w64_id (by omega) (by omega)]
    omega
  have c1 : w64 ((EndsS b s).fLo * (totN b : Int)) = (EndsS b s).fLo * (totN b : Int) := by
    have : 0 ≤ (EndsS b s).fLo * (totN b : Int) := Int.mul_nonneg h6.1 (by omega)
    rw [w64_id (by omega) (by omega)]
  have c2 : w64 ((EndsS b s).fHi * (totN b : Int)) = (EndsS b s).fHi * (totN b : Int) := by
    have : (EndsS b s).fHi * (totN b : Int) ≤ 50 * (totN b : Int) := Int.mul_le_mul_of_nonneg_right (by omega) (by omega)
    rw [w64_id (by omega) (by omega)]
  have c3 : w64 (Int.tdiv (totN b : Int) (q : Int)) = (((momI b s).toNat.gcd (totN b) : Nat) : Int) := by
    rw [tdiv_nat, d2]
    exact w64_le (Nat.gcd_le_right _ (by omega)) (by omega)
  have c4 : (((momI b s).toNat.gcd (totN b) : Nat) : Int) * (p : Int) = momI b s := by
    rw [← Int.natCast_mul, ← hp1]; omega
  have n1 : decide ((q : Int) < 1) = false := decide_eq_false (by omega)
  have n2 : decide ((totN b : Int) < 1) = false := decide_eq_false (by omega)
  have n3 : decide (momI b s < (EndsS b s).fLo * (totN b : Int)) = false := decide_eq_false (by omega)
  have n4 : decide ((EndsS b s).fHi * (totN b : Int) < momI b s) = false := decide_eq_false (by omega)
  have n5 : ((decide (0 < s)) && ((totN b : Int) != all)) = false := by
    by_cases e : 0 < s
    · rw [hall e]; simp
    · simp [e]
  have n6 : (Int.tmod (totN b : Int) (q : Int) != 0) = false := by rw [tmod_nat, d1]; rfl
  unfold calxlaw03_SampleMeans_l1; dsimp only
  rw [ite_t (by omega), Mean_spec h, bnd rfl, sample_Ends_spec, bnd rfl, Weights_spec, bnd rfl, Next_spec h, bnd rfl, elf, hr]
  simp only [h, if_true]
  rw [Means_l2_run hg, ← hlf]
  simp only [totP_WtS hc hs, WtS_tot hc hs, Int.zero_mul, Int.sub_zero, Option.bind_some]
  have hq0 : (q : Int) ≠ 0 := by omega
  by_cases hl : (lf : Int) = 0
  · have t1 : ((5 : Int) == 5) = true := rfl
    rw [if_pos hl]
    simp only [hl, n1, c1, c2, n2, n3, n4, n5, n6, c3, c4, guardO_pos hq0, Option.bind_some]
    rw [w64_id (x := momI b s) (by omega) (by omega), w64_id (x := sum + momI b s) (by omega) (by omega), w64_id (x := s + 1) (by omega) (by omega)]
    simp
  · rw [if_neg hl]
    have h7 : totN b * lf ≤ 495918532948104 * 50 := Nat.mul_le_mul h3 (by omega)
    have h8 : 0 < totN b * lf := Nat.mul_pos (by omega) (by omega)
    obtain ⟨p', q', hr', hq', hp1', hq1', hple', hqle'⟩ := RatS_is (a := (momI b s - sel3 b.fSeen.x0 b.fSeen.x1 b.fSeen.x2 s * (totN b : Int)).toNat) (b := totN b * lf) h8
    rw [show ((lf : Int)).toNat = lf from Int.toNat_natCast lf, hr']
    obtain ⟨d1', d2'⟩ := div_back hq1' hq'
    have hq0' : (q' : Int) ≠ 0 := by omega
    have m0 : w64 ((lf : Int) * (totN b : Int)) = ((totN b * lf : Nat) : Int) := by
      rw [← Int.natCast_mul, Nat.mul_comm, w64_id (by omega) (by omega)]
    have m1 : decide ((q' : Int) < 1) = false := decide_eq_false (by omega)
    have m2 : (Int.tmod ((totN b * lf : Nat) : Int) (q' : Int) != 0) = false := by rw [tmod_nat, d1']; rfl
    have m3 : w64 (Int.tdiv ((totN b * lf : Nat) : Int) (q' : Int)) = (((momI b s - sel3 b.fSeen.x0 b.fSeen.x1 b.fSeen.x2 s * (totN b : Int)).toNat.gcd (totN b * lf) : Nat) : Int) := by
      rw [tdiv_nat, d2']
      exact w64_le (Nat.gcd_le_right _ h8) h7
    have m4 : (((momI b s - sel3 b.fSeen.x0 b.fSeen.x1 b.fSeen.x2 s * (totN b : Int)).toNat.gcd (totN b * lf) : Nat) : Int) * (p' : Int) = momI b s - sel3 b.fSeen.x0 b.fSeen.x1 b.fSeen.x2 s * (totN b : Int) := by
      rw [← Int.natCast_mul, ← hp1']; omega
    have m5 : w64 (sel3 b.fSeen.x0 b.fSeen.x1 b.fSeen.x2 s * (totN b : Int)) = sel3 b.fSeen.x0 b.fSeen.x1 b.fSeen.x2 s * (totN b : Int) := w64_id (by omega) (by omega)
    have m6 : ((lf : Int) == 0) = false := by simpa using hl
    have hs3 : (0 : Int) ≤ s ∧ s < 3 := by omega
    simp only [m6, n1, c1, c2, n2, n3, n4, n5, n6, c3, c4, guardO_pos hq0, guardO_pos hq0', guardO_pos hs3, m0, m1, m2, m3, m4, m5, Option.bind_some]
    rw [w64_id (x := momI b s) (by omega) (by omega), w64_id (x := momI b s - _) (by omega) (by omega), w64_id (x := sum + momI b s) (by omega) (by omega), w64_id (x := s + 1) (by omega) (by omega)]
    simp
theorem SampleMeans_true (b : TBatch) (_ : TBatch_rg b) : calxlaw03_SampleMeans b = some true := by
  unfold calxlaw03_SampleMeans
  rw [head_true, bnd rfl, sample_Check_spec, bnd rfl]
  by_cases hc : CheckS b = 0
  · have hb := Check_bd hc
    have h3 := totN_le (Check_okB hc)
    rw [if_neg (by simp [hc])]
    have g0 := mom_nat hc (s := 0) (by omega)
    have g1 := mom_nat hc (s := 1) (by omega)
    have g2 := mom_nat hc (s := 2) (by omega)
    have e0 := Means_step hc (s := 0) (by omega) 0 0 (by omega) (by omega)
    have e1 := Means_step hc (s := 0 + 1) (by omega) (totN b : Int) (0 + momI b 0) (fun _ => rfl) (by omega)
    have e2 := Means_step hc (s := 0 + 1 + 1) (by omega) (totN b : Int) (0 + momI b 0 + momI b (0 + 1)) (fun _ => rfl) (by have : momI b (0 + 1) = momI b 1 := rfl; omega)
    have e3 : calxlaw03_SampleMeans_l1 b (false, (totN b : Int), 0 + momI b 0 + momI b (0 + 1) + momI b (0 + 1 + 1), 0 + 1 + 1 + 1) = some (.inr (.inr (false, (totN b : Int), 0 + momI b 0 + momI b (0 + 1) + momI b (0 + 1 + 1), 0 + 1 + 1 + 1))) := by
      unfold calxlaw03_SampleMeans_l1; dsimp only
      rw [ite_f (by decide)]
    rw [loopO_next e0, loopO_next e1, loopO_next e2, loopO_stop e3]
    dsimp only [Option.bind_some]
    have hall := mom_all hc
    have hmul : 0 ≤ b.fBarrows * (totN b : Int) ∧ b.fBarrows * (totN b : Int) ≤ 50 * (totN b : Int) := ⟨Int.mul_nonneg (by omega) (by omega), Int.mul_le_mul_of_nonneg_right (by omega) (by omega)⟩
    rw [w64_id (x := b.fBarrows * (totN b : Int)) (by omega) (by omega), ← hall]
    have : (0 + momI b 0 + momI b (0 + 1) + momI b (0 + 1 + 1) == momI b 0 + momI b 1 + momI b 2) = true := by
      rw [beq_iff_eq]
      show 0 + momI b 0 + momI b 1 + momI b 2 = _
      omega
    rw [this]; rfl
  · rw [if_pos (by simpa using hc)]
end Go.Proofs.Ytepfgdfahinpkaa
