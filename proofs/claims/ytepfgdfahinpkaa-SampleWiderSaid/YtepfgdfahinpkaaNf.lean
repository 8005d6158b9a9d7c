/- Plain laws of sample: plans; what SampleTrials' and SampleLeast's plain functions say is true. No program in sight. -/
import Derived.Test.YtepfgdfahinpkaaNe
set_option linter.unusedVariables false
namespace Go.Proofs.Ytepfgdfahinpkaa

/-- What is between so many bad ones and one more. -/
def gapU (N B t m : Nat) : Nat := if m < t then binom B m * binom (N - B - 1) (t - 1 - m) else 0
theorem AM_gap {N B t : Nat} (h : B + 1 ≤ N) : ∀ m, m ≤ t → AM N B t (m + 1) = AM N (B + 1) t (m + 1) + gapU N B t m
  | 0, _ => by
    rw [AM_succ, AM_succ, AM_0, AM_0, binom_zero, binom_zero, Nat.sub_zero, show N - B = (N - B - 1) + 1 by omega, show N - (B + 1) = N - B - 1 by omega]
    unfold gapU
    cases t with
    | zero => rw [if_neg (by omega), binom_zero, binom_zero]
    | succ t =>
      rw [if_pos (by omega), binom_succ, binom_zero, show t + 1 - 1 - 0 = t by omega]
      omega
  | m + 1, hm => by
    have ih := AM_gap (N := N) (B := B) (t := t) h m (by omega)
    rw [AM_succ N B t (m + 1), AM_succ N (B + 1) t (m + 1), ih]
    unfold gapU
    rw [if_pos (show m < t by omega), binom_succ B m, show N - (B + 1) = N - B - 1 by omega, show t - 1 - m = t - (m + 1) by omega]
    generalize hn : N - B - 1 = n
    rw [show N - B = n + 1 by omega]
    by_cases hc : m + 1 < t
    · rw [if_pos hc]
      obtain ⟨d, hd⟩ : ∃ d, t - (m + 1) = d + 1 := ⟨t - (m + 1) - 1, by omega⟩
      rw [hd, show t - 1 - (m + 1) = d by omega, binom_succ n d, Nat.mul_add, Nat.add_mul]
      omega
    · rw [if_neg hc, show t - (m + 1) = 0 by omega, binom_zero, binom_zero]
      omega
theorem AM_anti {N B t c : Nat} (h : B + 1 ≤ N) (hc : c ≤ t + 1) : AM N (B + 1) t c ≤ AM N B t c := by
  cases c with
  | zero => exact Nat.le_refl _
  | succ m => rw [AM_gap h m (by omega)]; omega
theorem Pass_eq (N B : Int) (p : TTrial) : sample_Pass N B p = some (if ((1 ≤ N ∧ N ≤ 50) ∧ 0 ≤ B ∧ B ≤ N) ∧ (0 ≤ p.fSample ∧ p.fSample ≤ N) ∧ (0 ≤ p.fAccept ∧ p.fAccept ≤ p.fSample) then (RatS (AM N.toNat B.toNat p.fSample.toNat (p.fAccept.toNat + 1)) (binom N.toNat p.fSample.toNat), 0) else (⟨0, 0⟩, 1)) := by
  unfold sample_Pass
  rw [lot_eq, bnd rfl]
  by_cases h1 : (1 ≤ N ∧ N ≤ 50) ∧ 0 ≤ B ∧ B ≤ N
  · rw [if_pos h1, if_neg (by simp), within_eq, bnd rfl]
    by_cases h2 : 0 ≤ p.fSample ∧ p.fSample ≤ N
    · rw [if_neg (by simpa using h2), within_eq, bnd rfl, bnd rfl]
      by_cases h3 : 0 ≤ p.fAccept ∧ p.fAccept ≤ p.fSample
      · have hC := binom50' (N := N.toNat) (by omega) p.fSample.toNat
        have hp := binom_pos N.toNat p.fSample.toNat (by omega)
        have hA := AM_le' (m := p.fAccept) h1.1 h2 (B := B.toNat) (by omega)
        have e : cnt p.fSample p.fAccept = p.fAccept.toNat + 1 := by unfold cnt; omega
        rw [e] at hA
        rw [if_neg (by simpa using h3), if_pos ⟨h1, h2, h3⟩, atMost_eq h1.2 h1.1.2 h2 (by omega), bnd rfl, choose_eq (by omega) (by omega) (by omega), bnd rfl, e, ratio_eq (by omega) (by omega) (by omega)]
        rfl
      · rw [if_pos (by simp; omega), if_neg (fun x => h3 x.2.2)]
    · rw [if_pos (by simp; omega), bnd rfl, if_pos rfl, if_neg (fun x => h2 x.2.1)]
  · rw [if_neg h1, if_pos (by simp), if_neg (fun x => h1 x.1)]
/-! ### Two samples, of which the second is none -/
theorem PassTwice_none {N B : Int} {p : TTrial} (h : ((1 ≤ N ∧ N ≤ 36) ∧ 0 ≤ B ∧ B ≤ N) ∧ (0 ≤ p.fSample ∧ p.fSample ≤ N) ∧ (0 ≤ p.fAccept ∧ p.fAccept ≤ p.fSample)) :
    sample_PassTwice N B ⟨p.fSample, p.fAccept, p.fSample + 1, 0, p.fAccept⟩ = some (RatS (AM N.toNat B.toNat p.fSample.toNat (p.fAccept.toNat + 1)) (binom N.toNat p.fSample.toNat), 0) := by
  obtain ⟨h1, h2, h3⟩ := h
  have hC := binom50' (N := N.toNat) (by omega) p.fSample.toNat
  have hp := binom_pos N.toNat p.fSample.toNat (by omega)
  have hle : ∀ c, c ≤ p.fSample.toNat + 1 → AM N.toNat B.toNat p.fSample.toNat c ≤ 126410606437752 := fun c hc => Nat.le_trans (AM_le (by omega) hc) hC
  unfold sample_PassTwice
  rw [lot_eq, bnd rfl, if_pos h1, if_neg (by simp)]
  dsimp only
  rw [within_eq, bnd rfl, if_neg (by simpa using h2), w64_id (x := N - p.fSample) (by omega) (by omega), within_eq, bnd rfl, bnd rfl, w64_id (x := p.fSample + 1) (by omega) (by omega), w64_id (x := p.fSample + 0) (by omega) (by omega)]
  have n1 : (((!(decide ((0 : Int) ≤ 0 ∧ 0 ≤ N - p.fSample)) || decide (p.fAccept < 0)) || decide (p.fSample + 1 ≤ p.fAccept)) || decide (p.fSample + 1 < p.fSample + 1)) = false := by
    rw [decide_eq_true (show (0 : Int) ≤ 0 ∧ 0 ≤ N - p.fSample by omega), decide_eq_false (show ¬ p.fAccept < 0 by omega), decide_eq_false (show ¬ p.fSample + 1 ≤ p.fAccept by omega), decide_eq_false (show ¬ p.fSample + 1 < p.fSample + 1 by omega)]
    rfl
  rw [n1, if_neg (by simp), within_eq, bnd rfl, bnd rfl, if_neg (by simp; omega), choose_eq (by omega) (by omega) (by omega), bnd rfl]
  have e1 : (binom (N - p.fSample).toNat (0 : Int).toNat : Int) = 1 := by
    show (binom (N - p.fSample).toNat 0 : Int) = 1
    rw [binom_zero]; rfl
  rw [e1]
  have hrun : loopO (sample_PassTwice_l1 N B ⟨p.fSample, p.fAccept, p.fSample + 1, 0, p.fAccept⟩ 1) (0, 0) = some ((AM N.toNat B.toNat p.fSample.toNat (min (min B p.fSample + 1).toNat (p.fAccept.toNat + 1)) : Int), (((min B p.fSample + 1).toNat : Nat) : Int)) := by
    have := loop_run (body := sample_PassTwice_l1 N B ⟨p.fSample, p.fAccept, p.fSample + 1, 0, p.fAccept⟩ 1) (fun k => ((AM N.toNat B.toNat p.fSample.toNat (min k (p.fAccept.toNat + 1)) : Int), (k : Int))) (min B p.fSample + 1).toNat (t := ((AM N.toNat B.toNat p.fSample.toNat (min (min B p.fSample + 1).toNat (p.fAccept.toNat + 1)) : Int), (((min B p.fSample + 1).toNat : Nat) : Int))) (fun k hk => by
      have b1 := hle k (by omega)
      have b2 := hle (k + 1) (by omega)
      have b3 := AM_succ N.toNat B.toNat p.fSample.toNat k
      have b4 := hle (min k (p.fAccept.toNat + 1)) (by omega)
      have e2 : (N - B).toNat = N.toNat - B.toNat := by omega
      have e3 : (p.fSample - (k : Int)).toNat = p.fSample.toNat - k := by omega
      unfold sample_PassTwice_l1; dsimp only
      rw [w64_id (x := min B p.fSample + 1) (by omega) (by omega), ite_t (by omega), choose_eq (by omega) (by omega) (by omega), bnd rfl, w64_id (x := N - B) (by omega) (by omega), w64_id (x := p.fSample - (k : Int)) (by omega) (by omega), choose_eq (by omega) (by omega) (by omega), bnd rfl, e2, e3, Int.toNat_natCast, ← Int.natCast_mul, w64_id (x := ((binom B.toNat k * binom (N.toNat - B.toNat) (p.fSample.toNat - k) : Nat) : Int)) (by omega) (by omega), Int.mul_one, w64_id (x := ((binom B.toNat k * binom (N.toNat - B.toNat) (p.fSample.toNat - k) : Nat) : Int)) (by omega) (by omega), w64_succ (by omega)]
      by_cases hk : (k : Int) ≤ p.fAccept
      · rw [ite_t hk, show min k (p.fAccept.toNat + 1) = k by omega, show min (k + 1) (p.fAccept.toNat + 1) = k + 1 by omega, w64_id (by omega) (by omega), b3]
        rfl
      · rw [ite_f hk, show min k (p.fAccept.toNat + 1) = p.fAccept.toNat + 1 by omega, show min (k + 1) (p.fAccept.toNat + 1) = p.fAccept.toNat + 1 by omega]
        have b5 := hle (p.fAccept.toNat + 1) (by omega)
        split
        · have hz : sample_atMost (w64 (N - p.fSample)) (w64 (B - (k : Int))) 0 (w64 (p.fAccept - (k : Int))) = some 0 := by
            rw [w64_id (x := p.fAccept - (k : Int)) (by omega) (by omega), w64_id (x := B - (k : Int)) (by omega) (by omega)]
            unfold sample_atMost
            rw [loopO_stop (t := (0, 0)) (by
              unfold sample_atMost_l1; dsimp only
              rw [w64_id (x := min (min _ _) _ + 1) (by omega) (by omega), ite_f (by omega)])]
            rfl
          rw [hz, bnd rfl, Int.mul_zero, w64_id (x := 0) (by omega) (by omega), Int.add_zero, w64_id (by omega) (by omega)]
        · rfl) (by
      unfold sample_PassTwice_l1; dsimp only
      rw [w64_id (x := min B p.fSample + 1) (by omega) (by omega), ite_f (by omega)])
    have e0 : AM N.toNat B.toNat p.fSample.toNat (min 0 (p.fAccept.toNat + 1)) = 0 := by rw [Nat.zero_min]; rfl
    have e00 : ((AM N.toNat B.toNat p.fSample.toNat (min 0 (p.fAccept.toNat + 1)) : Int), ((0 : Nat) : Int)) = (0, 0) := by rw [e0]; rfl
    have e2 : loopO (sample_PassTwice_l1 N B ⟨p.fSample, p.fAccept, p.fSample + 1, 0, p.fAccept⟩ 1) ((AM N.toNat B.toNat p.fSample.toNat (min 0 (p.fAccept.toNat + 1)) : Int), ((0 : Nat) : Int)) = _ := this
    rw [e00] at e2
    exact e2
  have hfin : AM N.toNat B.toNat p.fSample.toNat (min (min B p.fSample + 1).toNat (p.fAccept.toNat + 1)) = AM N.toNat B.toNat p.fSample.toNat (p.fAccept.toNat + 1) := by
    by_cases hb : B < p.fAccept
    · exact (AM_far (by omega) _ (by omega)).symm
    · congr 1; omega
  have hA := hle (p.fAccept.toNat + 1) (by omega)
  rw [hrun, bnd rfl, choose_eq (by omega) (by omega) (by omega), bnd rfl]
  dsimp only
  rw [hfin, Int.mul_one, w64_id (x := (binom N.toNat p.fSample.toNat : Int)) (by omega) (by omega), ratio_eq (by omega) (by omega) (by omega)]
  rfl
theorem SampleTrials_true (N B : Int) (p : TTrial) (_ : Rg_i64 N) (_ : Rg_i64 B) (_ : TTrial_rg p) : calxlaw03_SampleTrials N B p = some true := by
  unfold calxlaw03_SampleTrials
  rw [head_true, bnd rfl, Pass_eq, bnd rfl]
  by_cases h : ((1 ≤ N ∧ N ≤ 50) ∧ 0 ≤ B ∧ B ≤ N) ∧ (0 ≤ p.fSample ∧ p.fSample ≤ N) ∧ (0 ≤ p.fAccept ∧ p.fAccept ≤ p.fSample)
  · obtain ⟨h1, h2, h3⟩ := h
    have hC := binom50' (N := N.toNat) (by omega) p.fSample.toNat
    have hp := binom_pos N.toNat p.fSample.toNat (by omega)
    have ec : cnt p.fSample p.fAccept = p.fAccept.toNat + 1 := by unfold cnt; omega
    have hA := AM_le (N := N.toNat) (B := B.toNat) (t := p.fSample.toNat) (c := p.fAccept.toNat + 1) (by omega) (by omega)
    rw [if_pos (show ((1 ≤ N ∧ N ≤ 50) ∧ 0 ≤ B ∧ B ≤ N) ∧ (0 ≤ p.fSample ∧ p.fSample ≤ N) ∧ (0 ≤ p.fAccept ∧ p.fAccept ≤ p.fSample) from ⟨h1, h2, h3⟩)]
    dsimp only
    rw [if_neg (by simp), AtMost_eq, if_pos (show ((1 ≤ N ∧ N ≤ 50) ∧ 0 ≤ B ∧ B ≤ N) ∧ (0 ≤ p.fSample ∧ p.fSample ≤ N) ∧ 0 ≤ p.fAccept from ⟨h1, h2, h3.1⟩), bnd rfl, Choose_eq, if_pos (by omega), bnd rfl, ec]
    obtain ⟨x, y, hr, hy, ha, hb, hxa, hyb⟩ := RatS_is (a := AM N.toNat B.toNat p.fSample.toNat (p.fAccept.toNat + 1)) (b := binom N.toNat p.fSample.toNat) (by omega)
    obtain ⟨d1, d2⟩ : binom N.toNat p.fSample.toNat % y = 0 ∧ binom N.toNat p.fSample.toNat / y = Nat.gcd (AM N.toNat B.toNat p.fSample.toNat (p.fAccept.toNat + 1)) (binom N.toNat p.fSample.toNat) := by
      generalize Nat.gcd (AM N.toNat B.toNat p.fSample.toNat (p.fAccept.toNat + 1)) (binom N.toNat p.fSample.toNat) = g at hb ⊢
      rw [hb]
      exact ⟨Nat.mul_mod_left g y, Nat.mul_div_cancel g hy⟩
    have hgle : Nat.gcd (AM N.toNat B.toNat p.fSample.toNat (p.fAccept.toNat + 1)) (binom N.toNat p.fSample.toNat) ≤ binom N.toNat p.fSample.toNat := Nat.gcd_le_right _ (by omega)
    rw [hr]
    dsimp only
    have hy0 : (y : Int) ≠ 0 := by omega
    rw [if_neg (by simp; omega), guardO_pos hy0, guardO_pos hy0, tmod_nat, tdiv_nat, d1, d2, bnd rfl, if_neg (by simp), w64_id (x := ((Nat.gcd _ _ : Nat) : Int)) (by omega) (by omega), ← Int.natCast_mul, ← ha, w64_id (by omega) (by omega), bnd rfl, if_neg (by simp)]
    have more : (sample_AtMost N B p.fSample (w64 (p.fAccept + 1))) = some ((AM N.toNat B.toNat p.fSample.toNat (cnt p.fSample (p.fAccept + 1)) : Int), 0) := by
      rw [w64_id (by omega) (by omega), AtMost_eq, if_pos ⟨h1, h2, by omega⟩]
    have hmono : AM N.toNat B.toNat p.fSample.toNat (p.fAccept.toNat + 1) ≤ AM N.toNat B.toNat p.fSample.toNat (cnt p.fSample (p.fAccept + 1)) := AM_mono _ (by unfold cnt; omega)
    have last : (if decide (36 < N) = true then some true else (sample_PassTwice N B (TDouble.mk p.fSample p.fAccept (w64 (p.fSample + 1)) 0 p.fAccept)).bind fun y32 => some ((true && (y32.2 == 0)) && ((y32.1.fNum == (x : Int)) && (y32.1.fDen == (y : Int))))) = some true := by
      by_cases h36 : 36 < N
      · rw [ite_t h36]
      · rw [ite_f h36, w64_id (by omega) (by omega), PassTwice_none ⟨⟨⟨h1.1.1, by omega⟩, h1.2⟩, h2, h3⟩, hr]
        simp
    by_cases hlt : B < N
    · have hanti := AM_anti (N := N.toNat) (B := B.toNat) (t := p.fSample.toNat) (c := p.fAccept.toNat + 1) (by omega) (by omega)
      rw [ite_t hlt, w64_id (x := B + 1) (by omega) (by omega), AtMost_eq, if_pos ⟨⟨h1.1, by omega⟩, h2, h3.1⟩, bnd rfl, ec, show (B + 1).toNat = B.toNat + 1 by omega]
      dsimp only
      rw [if_neg (by simp; omega), more, bnd rfl]
      dsimp only
      rw [if_neg (by simp; omega)]
      exact last
    · rw [ite_f hlt, more, bnd rfl]
      dsimp only
      rw [if_neg (by simp; omega)]
      exact last
  · rw [if_neg h, if_pos (by simp)]
end Go.Proofs.Ytepfgdfahinpkaa
