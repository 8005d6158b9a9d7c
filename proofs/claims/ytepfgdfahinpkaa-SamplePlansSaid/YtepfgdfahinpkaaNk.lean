/- Plain laws of sample: plans with one and two samples; what SamplePlans' plain function says is true. No program in sight. -/
import Derived.Test.YtepfgdfahinpkaaNh
set_option linter.unusedVariables false
namespace Go.Proofs.Ytepfgdfahinpkaa

theorem rPass_eq (N B : Int) (p : TTrial) : calxref03_Pass N B p = some (if ((1 ≤ N ∧ N ≤ 50) ∧ 0 ≤ B ∧ B ≤ N) ∧ (0 ≤ p.fSample ∧ p.fSample ≤ N) ∧ (0 ≤ p.fAccept ∧ p.fAccept ≤ p.fSample) then (RatS (AM N.toNat B.toNat p.fSample.toNat (p.fAccept.toNat + 1)) (binom N.toNat p.fSample.toNat), 0) else (⟨0, 0⟩, 1)) := by
  unfold calxref03_Pass
  rw [rlot_eq, in_eq, in_eq, bnd rfl]
  by_cases h1 : (1 ≤ N ∧ N ≤ 50) ∧ 0 ≤ B ∧ B ≤ N
  · by_cases h2 : 0 ≤ p.fSample ∧ p.fSample ≤ N
    · by_cases h3 : 0 ≤ p.fAccept ∧ p.fAccept ≤ p.fSample
      · have hC := binom50' (N := N.toNat) (by omega) p.fSample.toNat
        have hp := binom_pos N.toNat p.fSample.toNat (by omega)
        have hA := AM_le' (m := p.fAccept) h1.1 h2 (B := B.toNat) (by omega)
        have e : cnt p.fSample p.fAccept = p.fAccept.toNat + 1 := by unfold cnt; omega
        rw [e] at hA
        rw [decide_eq_true h1, decide_eq_true h2, decide_eq_true h3, if_pos (show ((1 ≤ N ∧ N ≤ 50) ∧ 0 ≤ B ∧ B ≤ N) ∧ (0 ≤ p.fSample ∧ p.fSample ≤ N) ∧ (0 ≤ p.fAccept ∧ p.fAccept ≤ p.fSample) from ⟨h1, h2, h3⟩), ratMost_eq h1.2 h1.1.2 h2, rchoose_eq (by omega) (by omega) (by omega), e]
        simp only [Option.bind_some, Bool.not_true, Bool.false_eq_true, if_false]
        rw [ref_ratio_eq (by omega) (by omega) (by omega)]
        rfl
      · rw [if_neg (show ¬ (((1 ≤ N ∧ N ≤ 50) ∧ 0 ≤ B ∧ B ≤ N) ∧ (0 ≤ p.fSample ∧ p.fSample ≤ N) ∧ (0 ≤ p.fAccept ∧ p.fAccept ≤ p.fSample)) from fun x => h3 x.2.2), decide_eq_true h1, decide_eq_true h2, decide_eq_false h3]; rfl
    · rw [if_neg (show ¬ (((1 ≤ N ∧ N ≤ 50) ∧ 0 ≤ B ∧ B ≤ N) ∧ (0 ≤ p.fSample ∧ p.fSample ≤ N) ∧ (0 ≤ p.fAccept ∧ p.fAccept ≤ p.fSample)) from fun x => h2 x.2.1), decide_eq_true h1, decide_eq_false h2]; rfl
  · rw [if_neg (show ¬ (((1 ≤ N ∧ N ≤ 50) ∧ 0 ≤ B ∧ B ≤ N) ∧ (0 ≤ p.fSample ∧ p.fSample ≤ N) ∧ (0 ≤ p.fAccept ∧ p.fAccept ≤ p.fSample)) from fun x => h1 x.1), decide_eq_false h1]; rfl
theorem pow3 : ∀ (n k : Nat), k ≤ n → binom n k * 2 ^ (n - k) ≤ 3 ^ n
  | 0, k, h => by
    have : k = 0 := by omega
    subst this; decide
  | n + 1, 0, _ => by
    have := pow3 n 0 (by omega)
    rw [binom_zero, Nat.sub_zero] at this ⊢
    rw [Nat.pow_succ, Nat.pow_succ]
    omega
  | n + 1, k + 1, h => by
    have h1 := pow3 n k (by omega)
    rw [binom_succ, Nat.add_mul, show n + 1 - (k + 1) = n - k by omega, Nat.pow_succ]
    by_cases e : k = n
    · rw [e, binom_far n (n + 1) (by omega), Nat.zero_mul]
      rw [e] at h1
      omega
    · have h2 := pow3 n (k + 1) (by omega)
      rw [show n - k = (n - (k + 1)) + 1 by omega, Nat.pow_succ, ← Nat.mul_assoc (binom n (k + 1))]
      rw [show n - k = (n - (k + 1)) + 1 by omega, Nat.pow_succ] at h1
      omega
theorem den_le {N F S : Nat} (hF : F ≤ N) (hN : N ≤ 36) : binom N F * binom (N - F) S ≤ 150094635296999121 := by
  have h1 := Nat.mul_le_mul (Nat.le_refl (binom N F)) (binom_le (N - F) S)
  have h2 := pow3 N F hF
  have h3 : 3 ^ N ≤ 3 ^ 36 := Nat.pow_le_pow_right (by decide) hN
  have h4 : (3 : Nat) ^ 36 = 150094635296999121 := by decide +kernel
  omega
/-- What so many bad ones in the first sample add. -/
def tw (N B F S A R : Nat) (T : Int) (k : Nat) : Nat := binom B k * binom (N - B) (F - k) * (if k ≤ A then binom (N - F) S else if k < R then AM (N - F) (B - k) S (cnt (S : Int) (T - k)) else 0)
def PT (N B F S A R : Nat) (T : Int) (c : Nat) : Nat := ((List.range c).map (tw N B F S A R T)).sum
theorem PT_succ (N B F S A R : Nat) (T : Int) (c : Nat) : PT N B F S A R T (c + 1) = PT N B F S A R T c + tw N B F S A R T c := by
  unfold PT
  rw [List.range_succ, List.map_append, List.sum_append_nat]
  simp
theorem f_pos {N B F k : Nat} (h : 0 < binom B k * binom (N - B) (F - k)) : k ≤ B ∧ F - k ≤ N - B := by
  constructor
  · refine Nat.le_of_not_lt (fun hlt => ?_)
    rw [binom_far B k hlt, Nat.zero_mul] at h; omega
  · refine Nat.le_of_not_lt (fun hlt => ?_)
    rw [binom_far (N - B) (F - k) hlt, Nat.mul_zero] at h; omega
theorem tw_le {N B F S A R : Nat} {T : Int} {k : Nat} (hk : k ≤ F) (hB : B ≤ N) (hF : F ≤ N) : tw N B F S A R T k ≤ binom B k * binom (N - B) (F - k) * binom (N - F) S := by
  unfold tw
  by_cases h0 : 0 < binom B k * binom (N - B) (F - k)
  · obtain ⟨h1, h2⟩ := f_pos h0
    refine Nat.mul_le_mul (Nat.le_refl _) ?_
    split
    · exact Nat.le_refl _
    · split
      · exact AM_le (by omega) (by unfold cnt; omega)
      · exact Nat.zero_le _
  · rw [show binom B k * binom (N - B) (F - k) = 0 by omega]; omega
theorem PT_le {N B F S A R : Nat} {T : Int} (hB : B ≤ N) (hF : F ≤ N) : ∀ c, c ≤ F + 1 → PT N B F S A R T c ≤ AM N B F c * binom (N - F) S
  | 0, _ => Nat.zero_le _
  | c + 1, hc => by
    have h1 := PT_le (S := S) (A := A) (R := R) (T := T) hB hF c (by omega)
    have h2 := tw_le (S := S) (A := A) (R := R) (T := T) (k := c) (by omega) hB hF
    rw [PT_succ, AM_succ, Nat.add_mul]
    omega
theorem PT_far {N B F S A R : Nat} {T : Int} {c : Nat} (h : B < c) : ∀ d, c ≤ d → PT N B F S A R T d = PT N B F S A R T c := fun d hd => by
  induction d with
  | zero => rw [show c = 0 by omega]
  | succ d ih =>
    by_cases e : c = d + 1
    · rw [e]
    · rw [PT_succ, ih (by omega)]
      unfold tw
      rw [binom_far B d (by omega)]; omega
def TwOk (N B : Int) (p : TDouble) : Prop := ((1 ≤ N ∧ N ≤ 36) ∧ 0 ≤ B ∧ B ≤ N) ∧ (0 ≤ p.fFirst ∧ p.fFirst ≤ N) ∧ (0 ≤ p.fSecond ∧ p.fSecond ≤ N - p.fFirst) ∧ (0 ≤ p.fAccept ∧ p.fAccept < p.fRefuse ∧ p.fRefuse ≤ p.fFirst + 1) ∧ (p.fAccept ≤ p.fTogether ∧ p.fTogether ≤ p.fFirst + p.fSecond)
instance (N B : Int) (p : TDouble) : Decidable (TwOk N B p) := by unfold TwOk; infer_instance
section
variable {N B : Nat} {F S A R : Nat} {T : Int}
theorem Tw_step (hN : 1 ≤ N ∧ N ≤ 36) (hB : B ≤ N) (hF : F ≤ N) (hS : S ≤ N - F) (hR : A < R ∧ R ≤ F + 1) (hT : (A : Int) ≤ T ∧ T ≤ 72) {k : Nat} (hk : k ≤ F) (hkB : k ≤ B) :
    sample_PassTwice_l1 (N : Int) (B : Int) ⟨(F : Int), (A : Int), (R : Int), (S : Int), T⟩ (binom (N - F) S : Int) ((PT N B F S A R T k : Int), (k : Int)) = some (.inl ((PT N B F S A R T (k + 1) : Int), ((k + 1 : Nat) : Int))) := by
  have hC := binom50' (N := N) (by omega) F
  have hd := den_le (S := S) hF hN.2
  have h1 := PT_le (S := S) (A := A) (R := R) (T := T) hB hF k (by omega)
  have h2 := PT_le (S := S) (A := A) (R := R) (T := T) hB hF (k + 1) (by omega)
  have h3 := AM_le (N := N) (B := B) (t := F) (c := k + 1) hB (by omega)
  have h3' := AM_le (N := N) (B := B) (t := F) (c := k) hB (by omega)
  have h4 := AM_succ N B F k
  have h5 := Nat.mul_le_mul h3 (Nat.le_refl (binom (N - F) S))
  have h5' := Nat.mul_le_mul h3' (Nat.le_refl (binom (N - F) S))
  have h6 := PT_succ N B F S A R T k
  have h7 := tw_le (S := S) (A := A) (R := R) (T := T) hk hB hF
  have e1 : ((N : Int) - (B : Int)).toNat = N - B := by omega
  have e2 : ((F : Int) - (k : Int)).toNat = F - k := by omega
  unfold sample_PassTwice_l1; dsimp only
  rw [w64_id (x := min (B : Int) (F : Int) + 1) (by omega) (by omega), ite_t (by omega), choose_eq (by omega) (by omega) (by omega), bnd rfl, w64_id (x := (N : Int) - (B : Int)) (by omega) (by omega), w64_id (x := (F : Int) - (k : Int)) (by omega) (by omega), choose_eq (by omega) (by omega) (by omega), bnd rfl, e1, e2, Int.toNat_natCast, Int.toNat_natCast, ← Int.natCast_mul]
  unfold tw at h6 h7
  generalize hf : binom B k * binom (N - B) (F - k) = f at *
  have hfle : f ≤ 126410606437752 := by omega
  rw [w64_id (x := (f : Int)) (by omega) (by omega), w64_succ (by omega)]
  by_cases hA : k ≤ A
  · rw [if_pos hA] at h6 h7
    rw [ite_t (by omega), ← Int.natCast_mul, w64_id (x := ((f * binom (N - F) S : Nat) : Int)) (by omega) (by omega), w64_id (by omega) (by omega), h6]
    rfl
  · rw [if_neg hA] at h6 h7
    rw [ite_f (by omega)]
    by_cases hc : k < R ∧ 0 < f
    · rw [if_pos (by simp; omega)]
      rw [if_pos hc.1] at h6 h7
      obtain ⟨g1, g2⟩ := f_pos (N := N) (B := B) (F := F) (k := k) (by rw [hf]; exact hc.2)
      rw [w64_id (x := (N : Int) - (F : Int)) (by omega) (by omega), w64_id (x := (B : Int) - (k : Int)) (by omega) (by omega), w64_id (x := T - (k : Int)) (by omega) (by omega), atMost_eq (by omega) (by omega) (by omega) (by omega), bnd rfl]
      rw [show ((N : Int) - (F : Int)).toNat = N - F by omega, show ((B : Int) - (k : Int)).toNat = B - k by omega, Int.toNat_natCast, ← Int.natCast_mul, w64_id (x := ((f * AM (N - F) (B - k) S (cnt (S : Int) (T - (k : Int))) : Nat) : Int)) (by omega) (by omega), w64_id (by omega) (by omega), h6]
      rfl
    · rw [if_neg (by simp; omega)]
      have : f * (if k < R then AM (N - F) (B - k) S (cnt (S : Int) (T - (k : Int))) else 0) = 0 := by
        by_cases hkR : k < R
        · rw [show f = 0 by omega, Nat.zero_mul]
        · rw [if_neg hkR, Nat.mul_zero]
      rw [h6, this]; rfl
theorem rTw_step (hN : 1 ≤ N ∧ N ≤ 36) (hB : B ≤ N) (hF : F ≤ N) (hS : S ≤ N - F) (hR : A < R ∧ R ≤ F + 1) (hT : (A : Int) ≤ T ∧ T ≤ 72) {k : Nat} (hk : k ≤ F) :
    calxref03_PassTwice_l1 (N : Int) (B : Int) ⟨(F : Int), (A : Int), (R : Int), (S : Int), T⟩ (binom (N - F) S : Int) ((PT N B F S A R T k : Int), (k : Int)) = some (.inl ((PT N B F S A R T (k + 1) : Int), ((k + 1 : Nat) : Int))) := by
  have hC := binom50' (N := N) (by omega) F
  have hd := den_le (S := S) hF hN.2
  have h1 := PT_le (S := S) (A := A) (R := R) (T := T) hB hF k (by omega)
  have h2 := PT_le (S := S) (A := A) (R := R) (T := T) hB hF (k + 1) (by omega)
  have h3 := AM_le (N := N) (B := B) (t := F) (c := k + 1) hB (by omega)
  have h3' := AM_le (N := N) (B := B) (t := F) (c := k) hB (by omega)
  have h4 := AM_succ N B F k
  have h5 := Nat.mul_le_mul h3 (Nat.le_refl (binom (N - F) S))
  have h5' := Nat.mul_le_mul h3' (Nat.le_refl (binom (N - F) S))
  have h6 := PT_succ N B F S A R T k
  have h7 := tw_le (S := S) (A := A) (R := R) (T := T) hk hB hF
  have e1 : ((N : Int) - (B : Int)).toNat = N - B := by omega
  have e2 : ((F : Int) - (k : Int)).toNat = F - k := by omega
  unfold calxref03_PassTwice_l1; dsimp only
  rw [ite_t (by omega), rchoose_eq (by omega) (by omega) (by omega), bnd rfl, w64_id (x := (N : Int) - (B : Int)) (by omega) (by omega), w64_id (x := (F : Int) - (k : Int)) (by omega) (by omega), rchoose_eq (by omega) (by omega) (by omega), bnd rfl, e1, e2, Int.toNat_natCast, Int.toNat_natCast, ← Int.natCast_mul]
  unfold tw at h6 h7
  generalize hf : binom B k * binom (N - B) (F - k) = f at *
  have hfle : f ≤ 126410606437752 := by omega
  rw [w64_id (x := (f : Int)) (by omega) (by omega), w64_succ (by omega)]
  by_cases hc : k < R ∧ 0 < f
  · rw [if_neg (by simp; omega)]
    by_cases hA : k ≤ A
    · rw [if_pos hA] at h6 h7
      rw [ite_t (by omega), ← Int.natCast_mul, w64_id (x := ((f * binom (N - F) S : Nat) : Int)) (by omega) (by omega), w64_id (by omega) (by omega), h6]
      rfl
    · rw [if_neg hA, if_pos hc.1] at h6 h7
      rw [ite_f (by omega)]
      obtain ⟨g1, g2⟩ := f_pos (N := N) (B := B) (F := F) (k := k) (by rw [hf]; exact hc.2)
      by_cases hkT : (k : Int) ≤ T
      · rw [ite_t hkT, w64_id (x := (N : Int) - (F : Int)) (by omega) (by omega), w64_id (x := (B : Int) - (k : Int)) (by omega) (by omega), w64_id (x := T - (k : Int)) (by omega) (by omega), ratMost_eq (by omega) (by omega) (by omega), bnd rfl]
        rw [show ((N : Int) - (F : Int)).toNat = N - F by omega, show ((B : Int) - (k : Int)).toNat = B - k by omega, Int.toNat_natCast, ← Int.natCast_mul, w64_id (x := ((f * AM (N - F) (B - k) S (cnt (S : Int) (T - (k : Int))) : Nat) : Int)) (by omega) (by omega), w64_id (by omega) (by omega), h6]
        rfl
      · rw [ite_f hkT, h6, show cnt (S : Int) (T - (k : Int)) = 0 by unfold cnt; omega, AM_0, Nat.mul_zero]; rfl
  · rw [if_pos (by simp; omega)]
    have : f * (if k ≤ A then binom (N - F) S else if k < R then AM (N - F) (B - k) S (cnt (S : Int) (T - (k : Int))) else 0) = 0 := by
      by_cases hkR : k < R
      · rw [show f = 0 by omega, Nat.zero_mul]
      · rw [if_neg (by omega), if_neg hkR, Nat.mul_zero]
    rw [h6, this]; rfl
end
def TwS (N B : Int) (p : TDouble) : TRatio × Int := if TwOk N B p then (RatS (PT N.toNat B.toNat p.fFirst.toNat p.fSecond.toNat p.fAccept.toNat p.fRefuse.toNat p.fTogether (p.fFirst.toNat + 1)) (binom N.toNat p.fFirst.toNat * binom (N.toNat - p.fFirst.toNat) p.fSecond.toNat), 0) else (⟨0, 0⟩, 1)
theorem PassTwice_err {N B : Int} {p : TDouble} (h : ¬ TwOk N B p) : sample_PassTwice N B p = some (⟨0, 0⟩, 1) := by
  unfold sample_PassTwice
  rw [lot_eq, bnd rfl]
  by_cases h1 : (1 ≤ N ∧ N ≤ 36) ∧ 0 ≤ B ∧ B ≤ N
  · rw [if_pos h1, if_neg (by simp), within_eq, bnd rfl]
    by_cases h2 : 0 ≤ p.fFirst ∧ p.fFirst ≤ N
    · rw [decide_eq_true h2, if_neg (by simp), w64_id (x := N - p.fFirst) (by omega) (by omega), within_eq, bnd rfl, bnd rfl, w64_id (x := p.fFirst + 1) (by omega) (by omega)]
      by_cases h3 : (0 ≤ p.fSecond ∧ p.fSecond ≤ N - p.fFirst) ∧ (0 ≤ p.fAccept ∧ p.fAccept < p.fRefuse ∧ p.fRefuse ≤ p.fFirst + 1)
      · have h4 : ¬ (p.fAccept ≤ p.fTogether ∧ p.fTogether ≤ p.fFirst + p.fSecond) := fun x => h ⟨h1, h2, h3.1, h3.2, x⟩
        rw [if_neg (by simp; omega), w64_id (x := p.fFirst + p.fSecond) (by omega) (by omega), within_eq, bnd rfl, bnd rfl, if_pos (by simp; omega)]
      · rw [if_pos (by simp; omega), bnd rfl, if_pos rfl]
    · rw [decide_eq_false h2, if_pos (by simp), bnd rfl, if_pos (by simp), bnd rfl, if_pos rfl]
  · rw [if_neg h1, if_pos (by simp)]
theorem rPassTwice_err {N B : Int} {p : TDouble} (h : ¬ TwOk N B p) : calxref03_PassTwice N B p = some (⟨0, 0⟩, 1) := by
  unfold calxref03_PassTwice
  rw [in_eq, in_eq, in_eq, bnd rfl]
  by_cases h1 : 1 ≤ N ∧ N ≤ 36
  · by_cases h1' : 0 ≤ B ∧ B ≤ N
    · rw [decide_eq_true h1, decide_eq_true h1', if_neg (by simp), bnd rfl, bnd rfl, if_neg (by simp), bnd rfl]
      by_cases h2 : 0 ≤ p.fFirst ∧ p.fFirst ≤ N
      · rw [decide_eq_true h2, if_neg (by simp), w64_id (x := N - p.fFirst) (by omega) (by omega), in_eq, bnd rfl, bnd rfl, w64_id (x := p.fFirst + 1) (by omega) (by omega)]
        by_cases h3 : (0 ≤ p.fSecond ∧ p.fSecond ≤ N - p.fFirst) ∧ (0 ≤ p.fAccept ∧ p.fAccept < p.fRefuse ∧ p.fRefuse ≤ p.fFirst + 1)
        · have h4 : ¬ (p.fAccept ≤ p.fTogether ∧ p.fTogether ≤ p.fFirst + p.fSecond) := fun x => h ⟨⟨h1, h1'⟩, h2, h3.1, h3.2, x⟩
          rw [if_neg (by simp; omega), w64_id (x := p.fFirst + p.fSecond) (by omega) (by omega), in_eq, bnd rfl, bnd rfl, if_pos (by simp; omega)]
        · rw [if_pos (by simp; omega), bnd rfl, if_pos rfl]
      · rw [decide_eq_false h2, if_pos (by simp), bnd rfl, if_pos (by simp), bnd rfl, if_pos rfl]
    · rw [decide_eq_true h1, decide_eq_false h1']; rfl
  · rw [decide_eq_false h1]; rfl
theorem Tw_den {N F S : Nat} (hF : F ≤ N) (hS : S ≤ N - F) : 0 < binom N F * binom (N - F) S := Nat.mul_pos (binom_pos N F hF) (binom_pos (N - F) S hS)
theorem PassTwice_nat {N B F S A R : Nat} {T : Int} (hN : 1 ≤ N ∧ N ≤ 36) (hB : B ≤ N) (hF : F ≤ N) (hS : S ≤ N - F) (hR : A < R ∧ R ≤ F + 1) (hT : (A : Int) ≤ T ∧ T ≤ (F : Int) + (S : Int)) :
    sample_PassTwice (N : Int) (B : Int) ⟨(F : Int), (A : Int), (R : Int), (S : Int), T⟩ = some (RatS (PT N B F S A R T (F + 1)) (binom N F * binom (N - F) S), 0) := by
  have hd := den_le (S := S) hF hN.2
  have hp := Tw_den hF hS
  have hle := PT_le (S := S) (A := A) (R := R) (T := T) hB hF (F + 1) (by omega)
  rw [AM_full hB] at hle
  unfold sample_PassTwice
  rw [lot_eq, bnd rfl, if_pos (show (1 ≤ (N : Int) ∧ (N : Int) ≤ 36) ∧ 0 ≤ (B : Int) ∧ (B : Int) ≤ (N : Int) by omega), if_neg (by simp)]
  dsimp only
  rw [within_eq, bnd rfl, if_neg (by simp; omega), w64_id (x := (N : Int) - (F : Int)) (by omega) (by omega), within_eq, bnd rfl, bnd rfl, w64_id (x := (F : Int) + 1) (by omega) (by omega), if_neg (by simp; omega), w64_id (x := (F : Int) + (S : Int)) (by omega) (by omega), within_eq, bnd rfl, bnd rfl, if_neg (by simp; omega), choose_eq (by omega) (by omega) (by omega), bnd rfl, show ((N : Int) - (F : Int)).toNat = N - F by omega, Int.toNat_natCast]
  have hrun := loop_run (body := sample_PassTwice_l1 (N : Int) (B : Int) ⟨(F : Int), (A : Int), (R : Int), (S : Int), T⟩ (binom (N - F) S : Int)) (fun k => ((PT N B F S A R T k : Int), (k : Int))) (min B F + 1) (t := ((PT N B F S A R T (min B F + 1) : Int), ((min B F + 1 : Nat) : Int))) (fun k hk => Tw_step hN hB hF hS hR ⟨hT.1, by omega⟩ (by omega) (by omega)) (by
    unfold sample_PassTwice_l1; dsimp only
    rw [w64_id (x := min (B : Int) (F : Int) + 1) (by omega) (by omega), ite_f (by omega)])
  have hfin : PT N B F S A R T (min B F + 1) = PT N B F S A R T (F + 1) := by
    by_cases hb : B < F
    · exact (PT_far (by omega) _ (by omega)).symm
    · congr 1; omega
  rw [hfin] at hrun
  have h0 : loopO (sample_PassTwice_l1 (N : Int) (B : Int) ⟨(F : Int), (A : Int), (R : Int), (S : Int), T⟩ (binom (N - F) S : Int)) (0, 0) = _ := hrun
  rw [h0, bnd rfl, choose_eq (by omega) (by omega) (by omega), bnd rfl, Int.toNat_natCast, Int.toNat_natCast, ← Int.natCast_mul, w64_id (x := ((binom N F * binom (N - F) S : Nat) : Int)) (by omega) (by omega), ratio_eq hp (by omega) (by omega)]
  rfl
theorem rPassTwice_nat {N B F S A R : Nat} {T : Int} (hN : 1 ≤ N ∧ N ≤ 36) (hB : B ≤ N) (hF : F ≤ N) (hS : S ≤ N - F) (hR : A < R ∧ R ≤ F + 1) (hT : (A : Int) ≤ T ∧ T ≤ (F : Int) + (S : Int)) :
    calxref03_PassTwice (N : Int) (B : Int) ⟨(F : Int), (A : Int), (R : Int), (S : Int), T⟩ = some (RatS (PT N B F S A R T (F + 1)) (binom N F * binom (N - F) S), 0) := by
  have hd := den_le (S := S) hF hN.2
  have hp := Tw_den hF hS
  have hle := PT_le (S := S) (A := A) (R := R) (T := T) hB hF (F + 1) (by omega)
  rw [AM_full hB] at hle
  unfold calxref03_PassTwice
  dsimp only
  rw [in_eq, in_eq, in_eq, bnd rfl, if_neg (by simp; omega), bnd rfl, bnd rfl, if_neg (by simp; omega), bnd rfl, if_neg (by simp; omega), w64_id (x := (N : Int) - (F : Int)) (by omega) (by omega), in_eq, bnd rfl, bnd rfl, w64_id (x := (F : Int) + 1) (by omega) (by omega), if_neg (by simp; omega), w64_id (x := (F : Int) + (S : Int)) (by omega) (by omega), in_eq, bnd rfl, bnd rfl, if_neg (by simp; omega), rchoose_eq (by omega) (by omega) (by omega), bnd rfl, show ((N : Int) - (F : Int)).toNat = N - F by omega, Int.toNat_natCast]
  have hrun := loop_run (body := calxref03_PassTwice_l1 (N : Int) (B : Int) ⟨(F : Int), (A : Int), (R : Int), (S : Int), T⟩ (binom (N - F) S : Int)) (fun k => ((PT N B F S A R T k : Int), (k : Int))) (F + 1) (t := ((PT N B F S A R T (F + 1) : Int), ((F + 1 : Nat) : Int))) (fun k hk => rTw_step hN hB hF hS hR ⟨hT.1, by omega⟩ (by omega)) (by
    unfold calxref03_PassTwice_l1; dsimp only
    rw [ite_f (by omega)])
  have h0 : loopO (calxref03_PassTwice_l1 (N : Int) (B : Int) ⟨(F : Int), (A : Int), (R : Int), (S : Int), T⟩ (binom (N - F) S : Int)) (0, 0) = _ := hrun
  rw [h0, bnd rfl, rchoose_eq (by omega) (by omega) (by omega), bnd rfl, Int.toNat_natCast, Int.toNat_natCast, ← Int.natCast_mul, w64_id (x := ((binom N F * binom (N - F) S : Nat) : Int)) (by omega) (by omega), ref_ratio_eq hp (by omega) (by omega)]
  rfl
theorem SamplePlans_true (N B : Int) (p : TTrial) (d : TDouble) (_ : Rg_i64 N) (_ : Rg_i64 B) (_ : TTrial_rg p) (_ : TDouble_rg d) : calxlaw03_SamplePlans N B p d = some true := by
  have hsame : ∃ x, sample_PassTwice N B d = some x ∧ calxref03_PassTwice N B d = some x := by
    by_cases h : TwOk N B d
    · obtain ⟨h1, h2, h3, h4, h5⟩ := h
      obtain ⟨F, A, R, S, T⟩ := d
      dsimp only at h2 h3 h4 h5
      obtain ⟨n, rfl⟩ : ∃ n : Nat, N = (n : Int) := ⟨N.toNat, by omega⟩
      obtain ⟨b, rfl⟩ : ∃ b : Nat, B = (b : Int) := ⟨B.toNat, by omega⟩
      obtain ⟨f, rfl⟩ : ∃ f : Nat, F = (f : Int) := ⟨F.toNat, by omega⟩
      obtain ⟨s, rfl⟩ : ∃ s : Nat, S = (s : Int) := ⟨S.toNat, by omega⟩
      obtain ⟨a, rfl⟩ : ∃ a : Nat, A = (a : Int) := ⟨A.toNat, by omega⟩
      obtain ⟨r, rfl⟩ : ∃ r : Nat, R = (r : Int) := ⟨R.toNat, by omega⟩
      exact ⟨_, PassTwice_nat (by omega) (by omega) (by omega) (by omega) (by omega) h5, rPassTwice_nat (by omega) (by omega) (by omega) (by omega) (by omega) h5⟩
    · exact ⟨_, PassTwice_err h, rPassTwice_err h⟩
  obtain ⟨x, e1, e2⟩ := hsame
  unfold calxlaw03_SamplePlans
  simp only [head_true, Option.bind_some, Pass_eq, rPass_eq, e1, e2]
  simp
end Go.Proofs.Ytepfgdfahinpkaa
