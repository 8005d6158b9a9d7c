/- The plain functions with loops of so many rounds at most: they compute. No program in sight. -/
import Derived.Test.YtepfgdfahinpkaaP
set_option linter.unusedVariables false
set_option maxRecDepth 100000
set_option maxHeartbeats 4000000
namespace Go.Proofs.Ytepfgdfahinpkaa

/-! calx/sample.within -/
def sample_within_c (fuel : Nat) (p0_n : Int) (p1_lo : Int) (p2_hi : Int) : Option Bool :=
  some ((decide (p1_lo ≤ p0_n)) && (decide (p0_n ≤ p2_hi)))
theorem sample_within_le (fuel : Nat) (p0_n : Int) (p1_lo : Int) (p2_hi : Int) : LeO (sample_within_c fuel p0_n p1_lo p2_hi) (sample_within p0_n p1_lo p2_hi) := by
  unfold sample_within_c sample_within
  repeat' first
    | with_reducible apply LeO.bind
    | with_reducible apply LeO.guard
    | with_reducible apply LeO.ite
    | with_reducible apply LeO.loop
    | with_reducible apply LeO.fold
    | with_reducible exact LeO.refl _
    | (intro (u : Sum _ _); cases u <;> dsimp only)
    | intro _

/-! calx/sample.ratio -/
def sample_ratio_l1_c (fuel : Nat) (s3 : (Int × Int)) : Option ((Int × Int) ⊕ (Int × Int)) :=
  (if decide (0 < s3.2) = true then guardO (s3.2 ≠ 0) (some (.inl (s3.2, Int.tmod s3.1 s3.2))) else some (.inr (s3.1, s3.2)))
theorem sample_ratio_l1_le (fuel : Nat) (s3 : (Int × Int)) : LeO (sample_ratio_l1_c fuel s3) (sample_ratio_l1 s3) := by
  unfold sample_ratio_l1_c sample_ratio_l1
  repeat' first
    | with_reducible apply LeO.bind
    | with_reducible apply LeO.guard
    | with_reducible apply LeO.ite
    | with_reducible apply LeO.loop
    | with_reducible apply LeO.fold
    | with_reducible exact LeO.refl _
    | (intro (u : Sum _ _); cases u <;> dsimp only)
    | intro _
def sample_ratio_c (fuel : Nat) (p0_num : Int) (p1_den : Int) : Option TRatio :=
  ((loopF fuel (sample_ratio_l1_c fuel) (p0_num, p1_den)).bind fun u4 => guardO (u4.1 ≠ 0) (guardO (u4.1 ≠ 0) (some (TRatio.mk (w64 (Int.tdiv p0_num u4.1)) (w64 (Int.tdiv p1_den u4.1))))))
theorem sample_ratio_le (fuel : Nat) (p0_num : Int) (p1_den : Int) : LeO (sample_ratio_c fuel p0_num p1_den) (sample_ratio p0_num p1_den) := by
  unfold sample_ratio_c sample_ratio
  repeat' first
    | with_reducible apply LeO.bind
    | with_reducible apply sample_ratio_l1_le
    | with_reducible apply LeO.guard
    | with_reducible apply LeO.ite
    | with_reducible apply LeO.loop
    | with_reducible apply LeO.fold
    | with_reducible exact LeO.refl _
    | (intro (u : Sum _ _); cases u <;> dsimp only)
    | intro _

/-! calx/sample.isLevel -/
def sample_isLevel_c (fuel : Nat) (p0_r : TRatio) : Option Bool :=
  ((sample_within_c fuel p0_r.fDen 1 10000).bind fun y2 => ((if y2 = true then ((sample_within_c fuel p0_r.fNum 0 p0_r.fDen).bind fun y12 => some (y12)) else (some (false))).bind fun b5 => ((if b5 = true then ((sample_ratio_c fuel p0_r.fNum p0_r.fDen).bind fun y10 => some (((y10.fNum == p0_r.fNum) && (y10.fDen == p0_r.fDen)))) else (some (false))).bind fun b8 => some b8)))
theorem sample_isLevel_le (fuel : Nat) (p0_r : TRatio) : LeO (sample_isLevel_c fuel p0_r) (sample_isLevel p0_r) := by
  unfold sample_isLevel_c sample_isLevel
  repeat' first
    | with_reducible apply LeO.bind
    | with_reducible apply sample_ratio_le
    | with_reducible apply sample_within_le
    | with_reducible apply LeO.guard
    | with_reducible apply LeO.ite
    | with_reducible apply LeO.loop
    | with_reducible apply LeO.fold
    | with_reducible exact LeO.refl _
    | (intro (u : Sum _ _); cases u <;> dsimp only)
    | intro _

/-! calx/sample.choose -/
def sample_choose_l1_c (fuel : Nat) (p0_n : Int) (p1_k : Int) (s3 : (Int × Int)) : Option ((Int × Int) ⊕ (Int × Int)) :=
  (if decide (s3.2 ≤ min p1_k (w64 (p0_n - p1_k))) = true then guardO (s3.2 ≠ 0) (some (.inl (w64 (Int.tdiv (w64 (s3.1 * (w64 ((w64 (p0_n - (min p1_k (w64 (p0_n - p1_k))))) + s3.2)))) s3.2), w64 (s3.2 + 1)))) else some (.inr (s3.1, s3.2)))
theorem sample_choose_l1_le (fuel : Nat) (p0_n : Int) (p1_k : Int) (s3 : (Int × Int)) : LeO (sample_choose_l1_c fuel p0_n p1_k s3) (sample_choose_l1 p0_n p1_k s3) := by
  unfold sample_choose_l1_c sample_choose_l1
  repeat' first
    | with_reducible apply LeO.bind
    | with_reducible apply LeO.guard
    | with_reducible apply LeO.ite
    | with_reducible apply LeO.loop
    | with_reducible apply LeO.fold
    | with_reducible exact LeO.refl _
    | (intro (u : Sum _ _); cases u <;> dsimp only)
    | intro _
def sample_choose_c (fuel : Nat) (p0_n : Int) (p1_k : Int) : Option Int :=
  (if decide (p0_n < p1_k) = true then some 0 else ((loopF fuel (sample_choose_l1_c fuel p0_n p1_k) (1, 1)).bind fun u4 => some u4.1))
theorem sample_choose_le (fuel : Nat) (p0_n : Int) (p1_k : Int) : LeO (sample_choose_c fuel p0_n p1_k) (sample_choose p0_n p1_k) := by
  unfold sample_choose_c sample_choose
  repeat' first
    | with_reducible apply LeO.bind
    | with_reducible apply sample_choose_l1_le
    | with_reducible apply LeO.guard
    | with_reducible apply LeO.ite
    | with_reducible apply LeO.loop
    | with_reducible apply LeO.fold
    | with_reducible exact LeO.refl _
    | (intro (u : Sum _ _); cases u <;> dsimp only)
    | intro _

/-! calx/sample.atMost -/
def sample_atMost_l1_c (fuel : Nat) (p0_barrows : Int) (p1_bad : Int) (p2_taken : Int) (p3_most : Int) (s2 : (Int × Int)) : Option ((Int × Int) ⊕ (Int × Int)) :=
  (if decide (s2.2 < w64 ((min (min p3_most p1_bad) p2_taken) + 1)) = true then ((sample_choose_c fuel p1_bad s2.2).bind fun y5 => ((sample_choose_c fuel (w64 (p0_barrows - p1_bad)) (w64 (p2_taken - s2.2))).bind fun y7 => some (.inl (w64 (s2.1 + (w64 (y5 * y7))), w64 (s2.2 + 1))))) else some (.inr (s2.1, s2.2)))
theorem sample_atMost_l1_le (fuel : Nat) (p0_barrows : Int) (p1_bad : Int) (p2_taken : Int) (p3_most : Int) (s2 : (Int × Int)) : LeO (sample_atMost_l1_c fuel p0_barrows p1_bad p2_taken p3_most s2) (sample_atMost_l1 p0_barrows p1_bad p2_taken p3_most s2) := by
  unfold sample_atMost_l1_c sample_atMost_l1
  repeat' first
    | with_reducible apply LeO.bind
    | with_reducible apply sample_choose_le
    | with_reducible apply LeO.guard
    | with_reducible apply LeO.ite
    | with_reducible apply LeO.loop
    | with_reducible apply LeO.fold
    | with_reducible exact LeO.refl _
    | (intro (u : Sum _ _); cases u <;> dsimp only)
    | intro _
def sample_atMost_c (fuel : Nat) (p0_barrows : Int) (p1_bad : Int) (p2_taken : Int) (p3_most : Int) : Option Int :=
  ((loopF fuel (sample_atMost_l1_c fuel p0_barrows p1_bad p2_taken p3_most) (0, 0)).bind fun u3 => some u3.1)
theorem sample_atMost_le (fuel : Nat) (p0_barrows : Int) (p1_bad : Int) (p2_taken : Int) (p3_most : Int) : LeO (sample_atMost_c fuel p0_barrows p1_bad p2_taken p3_most) (sample_atMost p0_barrows p1_bad p2_taken p3_most) := by
  unfold sample_atMost_c sample_atMost
  repeat' first
    | with_reducible apply LeO.bind
    | with_reducible apply sample_atMost_l1_le
    | with_reducible apply LeO.guard
    | with_reducible apply LeO.ite
    | with_reducible apply LeO.loop
    | with_reducible apply LeO.fold
    | with_reducible exact LeO.refl _
    | (intro (u : Sum _ _); cases u <;> dsimp only)
    | intro _

/-! calx/sample.reaches$1 -/
def sample_reaches_1_c (fuel : Nat) (p0_n : Int) (cap0 : TRatio) (cap1 : Int) : Option Bool :=
  some (decide (w64 (cap0.fNum * cap1) ≤ w64 (p0_n * cap0.fDen)))
theorem sample_reaches_1_le (fuel : Nat) (p0_n : Int) (cap0 : TRatio) (cap1 : Int) : LeO (sample_reaches_1_c fuel p0_n cap0 cap1) (sample_reaches_1 p0_n cap0 cap1) := by
  unfold sample_reaches_1_c sample_reaches_1
  repeat' first
    | with_reducible apply LeO.bind
    | with_reducible apply LeO.guard
    | with_reducible apply LeO.ite
    | with_reducible apply LeO.loop
    | with_reducible apply LeO.fold
    | with_reducible exact LeO.refl _
    | (intro (u : Sum _ _); cases u <;> dsimp only)
    | intro _

/-! calx/sample.reaches -/
def sample_reaches_c (fuel : Nat) (p0_level : TRatio) (p1_all : Int) : Option (TRatio × Int) :=
  some (p0_level, p1_all)
theorem sample_reaches_le (fuel : Nat) (p0_level : TRatio) (p1_all : Int) : LeO (sample_reaches_c fuel p0_level p1_all) (sample_reaches p0_level p1_all) := by
  unfold sample_reaches_c sample_reaches
  repeat' first
    | with_reducible apply LeO.bind
    | with_reducible apply LeO.guard
    | with_reducible apply LeO.ite
    | with_reducible apply LeO.loop
    | with_reducible apply LeO.fold
    | with_reducible exact LeO.refl _
    | (intro (u : Sum _ _); cases u <;> dsimp only)
    | intro _

/-! calx/sample.Smallest -/
def sample_Smallest_l2_c (fuel : Nat) (p0 : Int) (p1 : Int) (p2 : Int) (p3 : TRatio) (p4 : TRatio) (s19 : (Bool × Int × Int × Int)) (y22 : Int) (s26 : (Bool × Int × Int × Int)) : Option ((Bool × Int × Int × Int) ⊕ ((Bool × Int × Int × Int) ⊕ (Bool × Int × Int × Int))) :=
  (if decide (s26.2.1 < w64 (s19.2.1 + 1)) = true then ((sample_atMost_c fuel p0 p2 s19.2.1 s26.2.1).bind fun y29 => ((sample_reaches_c fuel p3 y22).bind fun y31 => ((sample_atMost_c fuel p0 p1 s19.2.1 s26.2.1).bind fun y35 => ((sample_reaches_1_c fuel y35 y31.1 y31.2).bind fun y37 => (if (y37 && (decide (w64 (y29 * p4.fDen) ≤ w64 (p4.fNum * y22)))) = true then some (.inr (.inl (true, s26.2.1, s19.2.1, s26.2.1))) else some (.inl (s26.1, w64 (s26.2.1 + 1), s26.2.2.1, s26.2.2.2))))))) else some (.inr (.inr (s26.1, s26.2.1, s26.2.2.1, s26.2.2.2))))
theorem sample_Smallest_l2_le (fuel : Nat) (p0 : Int) (p1 : Int) (p2 : Int) (p3 : TRatio) (p4 : TRatio) (s19 : (Bool × Int × Int × Int)) (y22 : Int) (s26 : (Bool × Int × Int × Int)) : LeO (sample_Smallest_l2_c fuel p0 p1 p2 p3 p4 s19 y22 s26) (sample_Smallest_l2 p0 p1 p2 p3 p4 s19 y22 s26) := by
  unfold sample_Smallest_l2_c sample_Smallest_l2
  repeat' first
    | with_reducible apply LeO.bind
    | with_reducible apply sample_atMost_le
    | with_reducible apply sample_reaches_le
    | with_reducible apply sample_reaches_1_le
    | with_reducible apply LeO.guard
    | with_reducible apply LeO.ite
    | with_reducible apply LeO.loop
    | with_reducible apply LeO.fold
    | with_reducible exact LeO.refl _
    | (intro (u : Sum _ _); cases u <;> dsimp only)
    | intro _
def sample_Smallest_l1_c (fuel : Nat) (p0 : Int) (p1 : Int) (p2 : Int) (p3 : TRatio) (p4 : TRatio) (s19 : (Bool × Int × Int × Int)) : Option ((Bool × Int × Int × Int) ⊕ (Bool × Int × Int × Int)) :=
  (if decide (s19.2.1 < w64 (p0 + 1)) = true then ((sample_choose_c fuel p0 s19.2.1).bind fun y22 => ((loopF fuel (sample_Smallest_l2_c fuel p0 p1 p2 p3 p4 s19 y22) (s19.1, 0, s19.2.2.1, s19.2.2.2)).bind fun u27 => match u27 with | (.inl u42) => some (.inr (u42.1, s19.2.1, u42.2.2.1, u42.2.2.2)) | (.inr u43) => some (.inl (u43.1, w64 (s19.2.1 + 1), u43.2.2.1, u43.2.2.2)))) else some (.inr (s19.1, s19.2.1, s19.2.2.1, s19.2.2.2)))
theorem sample_Smallest_l1_le (fuel : Nat) (p0 : Int) (p1 : Int) (p2 : Int) (p3 : TRatio) (p4 : TRatio) (s19 : (Bool × Int × Int × Int)) : LeO (sample_Smallest_l1_c fuel p0 p1 p2 p3 p4 s19) (sample_Smallest_l1 p0 p1 p2 p3 p4 s19) := by
  unfold sample_Smallest_l1_c sample_Smallest_l1
  repeat' first
    | with_reducible apply LeO.bind
    | with_reducible apply sample_Smallest_l2_le
    | with_reducible apply sample_choose_le
    | with_reducible apply LeO.guard
    | with_reducible apply LeO.ite
    | with_reducible apply LeO.loop
    | with_reducible apply LeO.fold
    | with_reducible exact LeO.refl _
    | (intro (u : Sum _ _); cases u <;> dsimp only)
    | intro _
def sample_Smallest_c (fuel : Nat) (p0 : Int) (p1 : Int) (p2 : Int) (p3 : TRatio) (p4 : TRatio) : Option (TTrial × Int) :=
  ((sample_within_c fuel p0 1 50).bind fun y4 => ((if ((((!y4) || (decide (p1 < 0))) || (decide (p2 ≤ p1))) || (decide (p0 < p2))) = true then (some (true)) else ((sample_isLevel_c fuel p3).bind fun y48 => some ((!y48)))).bind fun b10 => ((if b10 = true then (some (true)) else ((sample_isLevel_c fuel p4).bind fun y46 => some ((!y46)))).bind fun b13 => (if b13 = true then some ((TTrial.mk 0 0), 1) else ((loopF fuel (sample_Smallest_l1_c fuel p0 p1 p2 p3 p4) (false, 0, 0, 0)).bind fun u20 => (if (!u20.1) = true then some ((TTrial.mk 0 0), 5) else some ((TTrial.mk u20.2.2.1 u20.2.2.2), 0)))))))
theorem sample_Smallest_le (fuel : Nat) (p0 : Int) (p1 : Int) (p2 : Int) (p3 : TRatio) (p4 : TRatio) : LeO (sample_Smallest_c fuel p0 p1 p2 p3 p4) (sample_Smallest p0 p1 p2 p3 p4) := by
  unfold sample_Smallest_c sample_Smallest
  repeat' first
    | with_reducible apply LeO.bind
    | with_reducible apply sample_Smallest_l1_le
    | with_reducible apply sample_isLevel_le
    | with_reducible apply sample_within_le
    | with_reducible apply LeO.guard
    | with_reducible apply LeO.ite
    | with_reducible apply LeO.loop
    | with_reducible apply LeO.fold
    | with_reducible exact LeO.refl _
    | (intro (u : Sum _ _); cases u <;> dsimp only)
    | intro _

/-! calx/sample.sum[int] -/
def sample_sum_int_l1_c (fuel : Nat) (p0_l : (List Int)) (p1_of : Int → Option Int) (s2 : (Int × Int)) : Option ((Int × Int) ⊕ (Int × Int)) :=
  (if decide (s2.2 < ((p0_l.length : Nat) : Int)) = true then guardO ((0 : Int) ≤ s2.2 ∧ s2.2 < ((p0_l.length : Nat) : Int)) (((p1_of (rdL p0_l s2.2)).bind fun y6 => some (.inl (w64 (s2.1 + y6), w64 (s2.2 + 1))))) else some (.inr (s2.1, s2.2)))
theorem sample_sum_int_l1_le (fuel : Nat) (p0_l : (List Int)) (p1_of p1_of' : Int → Option Int) (hp1_of : ∀ x, LeO (p1_of x) (p1_of' x)) (s2 : (Int × Int)) : LeO (sample_sum_int_l1_c fuel p0_l p1_of s2) (sample_sum_int_l1 p0_l p1_of' s2) := by
  unfold sample_sum_int_l1_c sample_sum_int_l1
  repeat' first
    | with_reducible apply LeO.bind
    | with_reducible apply hp1_of
    | with_reducible apply LeO.guard
    | with_reducible apply LeO.ite
    | with_reducible apply LeO.loop
    | with_reducible apply LeO.fold
    | with_reducible exact LeO.refl _
    | (intro (u : Sum _ _); cases u <;> dsimp only)
    | intro _
def sample_sum_int_c (fuel : Nat) (p0_l : (List Int)) (p1_of : Int → Option Int) : Option Int :=
  ((loopF fuel (sample_sum_int_l1_c fuel p0_l p1_of) (0, 0)).bind fun u3 => some u3.1)
theorem sample_sum_int_le (fuel : Nat) (p0_l : (List Int)) (p1_of p1_of' : Int → Option Int) (hp1_of : ∀ x, LeO (p1_of x) (p1_of' x)) : LeO (sample_sum_int_c fuel p0_l p1_of) (sample_sum_int p0_l p1_of') := by
  unfold sample_sum_int_c sample_sum_int
  repeat' first
    | with_reducible apply LeO.bind
    | with_reducible apply hp1_of
    | with_reducible apply sample_sum_int_l1_le
    | with_reducible apply LeO.guard
    | with_reducible apply LeO.ite
    | with_reducible apply LeO.loop
    | with_reducible apply LeO.fold
    | with_reducible exact LeO.refl _
    | (intro (u : Sum _ _); cases u <;> dsimp only)
    | intro _

/-! calx/sample.size$1 -/
def sample_size_1_c (fuel : Nat) (p0_n : Int) : Option Int :=
  some (min p0_n 51)
theorem sample_size_1_le (fuel : Nat) (p0_n : Int) : LeO (sample_size_1_c fuel p0_n) (sample_size_1 p0_n) := by
  unfold sample_size_1_c sample_size_1
  repeat' first
    | with_reducible apply LeO.bind
    | with_reducible apply LeO.guard
    | with_reducible apply LeO.ite
    | with_reducible apply LeO.loop
    | with_reducible apply LeO.fold
    | with_reducible exact LeO.refl _
    | (intro (u : Sum _ _); cases u <;> dsimp only)
    | intro _

/-! calx/sample.size -/
def sample_size_c (fuel : Nat) (p0_k : TKinds) : Option Int :=
  ((sample_sum_int_c fuel [p0_k.x0, p0_k.x1, p0_k.x2] (fun x2 => sample_size_1_c fuel x2)).bind fun y3 => some y3)
theorem sample_size_le (fuel : Nat) (p0_k : TKinds) : LeO (sample_size_c fuel p0_k) (sample_size p0_k) := by
  unfold sample_size_c sample_size
  repeat' first
    | with_reducible apply LeO.bind
    | with_reducible apply sample_size_1_le
    | with_reducible apply sample_sum_int_le
    | with_reducible apply LeO.guard
    | with_reducible apply LeO.ite
    | with_reducible apply LeO.loop
    | with_reducible apply LeO.fold
    | with_reducible exact LeO.refl _
    | (intro (u : Sum _ _); cases u <;> dsimp only)
    | intro _

/-! calx/sample.wholes$1 -/
def sample_wholes_1_c (fuel : Nat) (p0_i : Int) (cap0 : TBatch) : Option Int :=
  guardO ((0 : Int) ≤ p0_i ∧ p0_i < 3) (guardO ((0 : Int) ≤ p0_i ∧ p0_i < 3) (some (max (sel3 cap0.fSeen.x0 cap0.fSeen.x1 cap0.fSeen.x2 p0_i) (sel3 cap0.fKnown.x0.fLo cap0.fKnown.x1.fLo cap0.fKnown.x2.fLo p0_i))))
theorem sample_wholes_1_le (fuel : Nat) (p0_i : Int) (cap0 : TBatch) : LeO (sample_wholes_1_c fuel p0_i cap0) (sample_wholes_1 p0_i cap0) := by
  unfold sample_wholes_1_c sample_wholes_1
  repeat' first
    | with_reducible apply LeO.bind
    | with_reducible apply LeO.guard
    | with_reducible apply LeO.ite
    | with_reducible apply LeO.loop
    | with_reducible apply LeO.fold
    | with_reducible exact LeO.refl _
    | (intro (u : Sum _ _); cases u <;> dsimp only)
    | intro _

/-! calx/sample.wholes -/
def sample_wholes_c (fuel : Nat) (p0_b : TBatch) : Option TBatch :=
  some p0_b
theorem sample_wholes_le (fuel : Nat) (p0_b : TBatch) : LeO (sample_wholes_c fuel p0_b) (sample_wholes p0_b) := by
  unfold sample_wholes_c sample_wholes
  repeat' first
    | with_reducible apply LeO.bind
    | with_reducible apply LeO.guard
    | with_reducible apply LeO.ite
    | with_reducible apply LeO.loop
    | with_reducible apply LeO.fold
    | with_reducible exact LeO.refl _
    | (intro (u : Sum _ _); cases u <;> dsimp only)
    | intro _

/-! calx/sample.isSample -/
def sample_isSample_c (fuel : Nat) (p0_k : TKinds) : Option Bool :=
  some (decide (0 ≤ min (min p0_k.x0 p0_k.x1) p0_k.x2))
theorem sample_isSample_le (fuel : Nat) (p0_k : TKinds) : LeO (sample_isSample_c fuel p0_k) (sample_isSample p0_k) := by
  unfold sample_isSample_c sample_isSample
  repeat' first
    | with_reducible apply LeO.bind
    | with_reducible apply LeO.guard
    | with_reducible apply LeO.ite
    | with_reducible apply LeO.loop
    | with_reducible apply LeO.fold
    | with_reducible exact LeO.refl _
    | (intro (u : Sum _ _); cases u <;> dsimp only)
    | intro _

/-! calx/sample.Check -/
def sample_Check_l1_c (fuel : Nat) (p0_b : TBatch) (s14 : (Int × Int)) : Option ((Int × Int) ⊕ ((Int × Int) ⊕ (Int × Int))) :=
  (if decide (s14.1 < 3) = true then guardO ((0 : Int) ≤ s14.1 ∧ s14.1 < 3) ((if (((decide (sel3 p0_b.fKnown.x0.fLo p0_b.fKnown.x1.fLo p0_b.fKnown.x2.fLo s14.1 < 0)) || (decide (sel3 p0_b.fKnown.x0.fHi p0_b.fKnown.x1.fHi p0_b.fKnown.x2.fHi s14.1 < sel3 p0_b.fKnown.x0.fLo p0_b.fKnown.x1.fLo p0_b.fKnown.x2.fLo s14.1))) || (decide (p0_b.fBarrows < sel3 p0_b.fKnown.x0.fHi p0_b.fKnown.x1.fHi p0_b.fKnown.x2.fHi s14.1))) = true then some (.inr (.inl (s14.1, 1))) else some (.inl (w64 (s14.1 + 1), s14.2)))) else some (.inr (.inr (s14.1, s14.2))))
theorem sample_Check_l1_le (fuel : Nat) (p0_b : TBatch) (s14 : (Int × Int)) : LeO (sample_Check_l1_c fuel p0_b s14) (sample_Check_l1 p0_b s14) := by
  unfold sample_Check_l1_c sample_Check_l1
  repeat' first
    | with_reducible apply LeO.bind
    | with_reducible apply LeO.guard
    | with_reducible apply LeO.ite
    | with_reducible apply LeO.loop
    | with_reducible apply LeO.fold
    | with_reducible exact LeO.refl _
    | (intro (u : Sum _ _); cases u <;> dsimp only)
    | intro _
def sample_Check_r2_c (fuel : Nat) (s33 : Int) (x34 : TKinds) : Option (Int ⊕ Int) :=
  some (.inr 0)
theorem sample_Check_r2_le (fuel : Nat) (s33 : Int) (x34 : TKinds) : LeO (sample_Check_r2_c fuel s33 x34) (sample_Check_r2 s33 x34) := by
  unfold sample_Check_r2_c sample_Check_r2
  repeat' first
    | with_reducible apply LeO.bind
    | with_reducible apply LeO.guard
    | with_reducible apply LeO.ite
    | with_reducible apply LeO.loop
    | with_reducible apply LeO.fold
    | with_reducible exact LeO.refl _
    | (intro (u : Sum _ _); cases u <;> dsimp only)
    | intro _
def sample_Check_c (fuel : Nat) (p0_b : TBatch) : Option Int :=
  ((sample_within_c fuel p0_b.fBarrows 1 50).bind fun y3 => ((if (!y3) = true then (some (true)) else ((sample_isSample_c fuel p0_b.fSeen).bind fun y42 => some ((!y42)))).bind fun b6 => ((if b6 = true then (some (true)) else ((sample_size_c fuel p0_b.fSeen).bind fun y40 => some (decide (p0_b.fBarrows < y40)))).bind fun b9 => (if b9 = true then some 1 else ((loopF fuel (sample_Check_l1_c fuel p0_b) (0, 0)).bind fun u15 => match u15 with | (.inl u23) => some u23.2 | (.inr u24) => ((sample_wholes_c fuel p0_b).bind fun y25 => (guardO (sample_okB y25) ((foldO (sample_Check_r2_c fuel) (sample_wh y25) u24.2).bind fun u35 => match u35 with | .inl u38 => some 9 | .inr u39 => some u39))))))))
theorem sample_Check_le (fuel : Nat) (p0_b : TBatch) : LeO (sample_Check_c fuel p0_b) (sample_Check p0_b) := by
  unfold sample_Check_c sample_Check
  repeat' first
    | with_reducible apply LeO.bind
    | with_reducible apply sample_Check_l1_le
    | with_reducible apply sample_Check_r2_le
    | with_reducible apply sample_isSample_le
    | with_reducible apply sample_size_le
    | with_reducible apply sample_wholes_le
    | with_reducible apply sample_within_le
    | with_reducible apply LeO.guard
    | with_reducible apply LeO.ite
    | with_reducible apply LeO.loop
    | with_reducible apply LeO.fold
    | with_reducible exact LeO.refl _
    | (intro (u : Sum _ _); cases u <;> dsimp only)
    | intro _

/-! calx/sample.isSort -/
def sample_isSort_c (fuel : Nat) (p0_n : Int) : Option Bool :=
  ((sample_within_c fuel p0_n 0 2).bind fun y1 => some y1)
theorem sample_isSort_le (fuel : Nat) (p0_n : Int) : LeO (sample_isSort_c fuel p0_n) (sample_isSort p0_n) := by
  unfold sample_isSort_c sample_isSort
  repeat' first
    | with_reducible apply LeO.bind
    | with_reducible apply sample_within_le
    | with_reducible apply LeO.guard
    | with_reducible apply LeO.ite
    | with_reducible apply LeO.loop
    | with_reducible apply LeO.fold
    | with_reducible exact LeO.refl _
    | (intro (u : Sum _ _); cases u <;> dsimp only)
    | intro _

/-! calx/sample.ends -/
def sample_ends_r1_c (fuel : Nat) (p1_sort : Int) (s13 : (Int × Int)) (x14 : TKinds) : Option ((Int × Int) ⊕ Unit) :=
  guardO ((0 : Int) ≤ p1_sort ∧ p1_sort < 3) (guardO ((0 : Int) ≤ p1_sort ∧ p1_sort < 3) (some (.inl (min s13.1 (sel3 x14.x0 x14.x1 x14.x2 p1_sort), max s13.2 (sel3 x14.x0 x14.x1 x14.x2 p1_sort)))))
theorem sample_ends_r1_le (fuel : Nat) (p1_sort : Int) (s13 : (Int × Int)) (x14 : TKinds) : LeO (sample_ends_r1_c fuel p1_sort s13 x14) (sample_ends_r1 p1_sort s13 x14) := by
  unfold sample_ends_r1_c sample_ends_r1
  repeat' first
    | with_reducible apply LeO.bind
    | with_reducible apply LeO.guard
    | with_reducible apply LeO.ite
    | with_reducible apply LeO.loop
    | with_reducible apply LeO.fold
    | with_reducible exact LeO.refl _
    | (intro (u : Sum _ _); cases u <;> dsimp only)
    | intro _
def sample_ends_c (fuel : Nat) (p0_b : TBatch) (p1_sort : Int) : Option TSpan :=
  ((sample_wholes_c fuel p0_b).bind fun y5 => (guardO (sample_okB y5) ((foldO (sample_ends_r1_c fuel p1_sort) (sample_wh y5) (p0_b.fBarrows, 0)).bind fun u15 => match u15 with | .inl u21 => some (TSpan.mk u21.1 u21.2) | .inr _ => none)))
theorem sample_ends_le (fuel : Nat) (p0_b : TBatch) (p1_sort : Int) : LeO (sample_ends_c fuel p0_b p1_sort) (sample_ends p0_b p1_sort) := by
  unfold sample_ends_c sample_ends
  repeat' first
    | with_reducible apply LeO.bind
    | with_reducible apply sample_ends_r1_le
    | with_reducible apply sample_wholes_le
    | with_reducible apply LeO.guard
    | with_reducible apply LeO.ite
    | with_reducible apply LeO.loop
    | with_reducible apply LeO.fold
    | with_reducible exact LeO.refl _
    | (intro (u : Sum _ _); cases u <;> dsimp only)
    | intro _

/-! calx/sample.sum[calx/api.Span] -/
def sample_sum_calx_api_Span_l1_c (fuel : Nat) (p0_l : (List TSpan)) (p1_of : TSpan → Option Int) (s2 : (Int × Int)) : Option ((Int × Int) ⊕ (Int × Int)) :=
  (if decide (s2.2 < ((p0_l.length : Nat) : Int)) = true then guardO ((0 : Int) ≤ s2.2 ∧ s2.2 < ((p0_l.length : Nat) : Int)) (((p1_of (TSpan.mk ((rdL p0_l s2.2).fLo) ((rdL p0_l s2.2).fHi))).bind fun y7 => some (.inl (w64 (s2.1 + y7), w64 (s2.2 + 1))))) else some (.inr (s2.1, s2.2)))
theorem sample_sum_calx_api_Span_l1_le (fuel : Nat) (p0_l : (List TSpan)) (p1_of p1_of' : TSpan → Option Int) (hp1_of : ∀ x, LeO (p1_of x) (p1_of' x)) (s2 : (Int × Int)) : LeO (sample_sum_calx_api_Span_l1_c fuel p0_l p1_of s2) (sample_sum_calx_api_Span_l1 p0_l p1_of' s2) := by
  unfold sample_sum_calx_api_Span_l1_c sample_sum_calx_api_Span_l1
  repeat' first
    | with_reducible apply LeO.bind
    | with_reducible apply hp1_of
    | with_reducible apply LeO.guard
    | with_reducible apply LeO.ite
    | with_reducible apply LeO.loop
    | with_reducible apply LeO.fold
    | with_reducible exact LeO.refl _
    | (intro (u : Sum _ _); cases u <;> dsimp only)
    | intro _
def sample_sum_calx_api_Span_c (fuel : Nat) (p0_l : (List TSpan)) (p1_of : TSpan → Option Int) : Option Int :=
  ((loopF fuel (sample_sum_calx_api_Span_l1_c fuel p0_l p1_of) (0, 0)).bind fun u3 => some u3.1)
theorem sample_sum_calx_api_Span_le (fuel : Nat) (p0_l : (List TSpan)) (p1_of p1_of' : TSpan → Option Int) (hp1_of : ∀ x, LeO (p1_of x) (p1_of' x)) : LeO (sample_sum_calx_api_Span_c fuel p0_l p1_of) (sample_sum_calx_api_Span p0_l p1_of') := by
  unfold sample_sum_calx_api_Span_c sample_sum_calx_api_Span
  repeat' first
    | with_reducible apply LeO.bind
    | with_reducible apply hp1_of
    | with_reducible apply sample_sum_calx_api_Span_l1_le
    | with_reducible apply LeO.guard
    | with_reducible apply LeO.ite
    | with_reducible apply LeO.loop
    | with_reducible apply LeO.fold
    | with_reducible exact LeO.refl _
    | (intro (u : Sum _ _); cases u <;> dsimp only)
    | intro _

/-! calx/sample.Together$1 -/
def sample_Together_1_c (fuel : Nat) (p0_x : TSpan) : Option Int :=
  some p0_x.fLo
theorem sample_Together_1_le (fuel : Nat) (p0_x : TSpan) : LeO (sample_Together_1_c fuel p0_x) (sample_Together_1 p0_x) := by
  unfold sample_Together_1_c sample_Together_1
  repeat' first
    | with_reducible apply LeO.bind
    | with_reducible apply LeO.guard
    | with_reducible apply LeO.ite
    | with_reducible apply LeO.loop
    | with_reducible apply LeO.fold
    | with_reducible exact LeO.refl _
    | (intro (u : Sum _ _); cases u <;> dsimp only)
    | intro _

/-! calx/sample.Together$2 -/
def sample_Together_2_c (fuel : Nat) (p0_x : TSpan) : Option Int :=
  some p0_x.fHi
theorem sample_Together_2_le (fuel : Nat) (p0_x : TSpan) : LeO (sample_Together_2_c fuel p0_x) (sample_Together_2 p0_x) := by
  unfold sample_Together_2_c sample_Together_2
  repeat' first
    | with_reducible apply LeO.bind
    | with_reducible apply LeO.guard
    | with_reducible apply LeO.ite
    | with_reducible apply LeO.loop
    | with_reducible apply LeO.fold
    | with_reducible exact LeO.refl _
    | (intro (u : Sum _ _); cases u <;> dsimp only)
    | intro _

/-! calx/sample.Together -/
def sample_Together_l1_c (fuel : Nat) (p0 : (List TBatch)) (s4 : (Int × Int)) : Option ((Int × Int) ⊕ ((Int × Int) ⊕ (Int × Int))) :=
  (if decide (s4.2 < ((p0.length : Nat) : Int)) = true then guardO ((0 : Int) ≤ s4.2 ∧ s4.2 < ((p0.length : Nat) : Int)) (((sample_Check_c fuel (TBatch.mk ((rdL p0 s4.2).fBarrows) (TKinds.mk ((rdL p0 s4.2).fSeen.x0) ((rdL p0 s4.2).fSeen.x1) ((rdL p0 s4.2).fSeen.x2)) (TArr3_TSpan.mk (TSpan.mk ((rdL p0 s4.2).fKnown.x0.fLo) ((rdL p0 s4.2).fKnown.x0.fHi)) (TSpan.mk ((rdL p0 s4.2).fKnown.x1.fLo) ((rdL p0 s4.2).fKnown.x1.fHi)) (TSpan.mk ((rdL p0 s4.2).fKnown.x2.fLo) ((rdL p0 s4.2).fKnown.x2.fHi))))).bind fun y9 => (if (y9 != 0) = true then some (.inr (.inl (y9, s4.2))) else some (.inl (s4.1, w64 (s4.2 + 1)))))) else some (.inr (.inr (s4.1, s4.2))))
theorem sample_Together_l1_le (fuel : Nat) (p0 : (List TBatch)) (s4 : (Int × Int)) : LeO (sample_Together_l1_c fuel p0 s4) (sample_Together_l1 p0 s4) := by
  unfold sample_Together_l1_c sample_Together_l1
  repeat' first
    | with_reducible apply LeO.bind
    | with_reducible apply sample_Check_le
    | with_reducible apply LeO.guard
    | with_reducible apply LeO.ite
    | with_reducible apply LeO.loop
    | with_reducible apply LeO.fold
    | with_reducible exact LeO.refl _
    | (intro (u : Sum _ _); cases u <;> dsimp only)
    | intro _
def sample_Together_l2_c (fuel : Nat) (p0 : (List TBatch)) (p1 : Int) (s21 : (Int × (List TSpan))) : Option ((Int × (List TSpan)) ⊕ (Int × (List TSpan))) :=
  (if decide (s21.1 < ((p0.length : Nat) : Int)) = true then guardO ((0 : Int) ≤ s21.1 ∧ s21.1 < ((p0.length : Nat) : Int)) (((sample_ends_c fuel (TBatch.mk ((rdL p0 s21.1).fBarrows) (TKinds.mk ((rdL p0 s21.1).fSeen.x0) ((rdL p0 s21.1).fSeen.x1) ((rdL p0 s21.1).fSeen.x2)) (TArr3_TSpan.mk (TSpan.mk ((rdL p0 s21.1).fKnown.x0.fLo) ((rdL p0 s21.1).fKnown.x0.fHi)) (TSpan.mk ((rdL p0 s21.1).fKnown.x1.fLo) ((rdL p0 s21.1).fKnown.x1.fHi)) (TSpan.mk ((rdL p0 s21.1).fKnown.x2.fLo) ((rdL p0 s21.1).fKnown.x2.fHi)))) p1).bind fun y26 => guardO (s21.2.length + 1 ≤ 1000000000) (some (.inl (w64 (s21.1 + 1), (s21.2 ++ [y26])))))) else some (.inr (s21.1, s21.2)))
theorem sample_Together_l2_le (fuel : Nat) (p0 : (List TBatch)) (p1 : Int) (s21 : (Int × (List TSpan))) : LeO (sample_Together_l2_c fuel p0 p1 s21) (sample_Together_l2 p0 p1 s21) := by
  unfold sample_Together_l2_c sample_Together_l2
  repeat' first
    | with_reducible apply LeO.bind
    | with_reducible apply sample_ends_le
    | with_reducible apply LeO.guard
    | with_reducible apply LeO.ite
    | with_reducible apply LeO.loop
    | with_reducible apply LeO.fold
    | with_reducible exact LeO.refl _
    | (intro (u : Sum _ _); cases u <;> dsimp only)
    | intro _
def sample_Together_l3_c (fuel : Nat) (p2 : TSpan) (u22 : (Int × (List TSpan))) (y34 : Int) (y37 : Int) (s43 : (Int × (List TSpan))) : Option ((Int × (List TSpan)) ⊕ (Int × (List TSpan))) :=
  (if decide (s43.1 < ((u22.2.length : Nat) : Int)) = true then guardO ((0 : Int) ≤ s43.1 ∧ s43.1 < ((u22.2.length : Nat) : Int)) (guardO ((0 : Int) ≤ s43.1 ∧ s43.1 < ((u22.2.length : Nat) : Int)) (some (.inl (w64 (s43.1 + 1), (s43.2.set (Int.toNat s43.1) (TSpan.mk (max ((rdL s43.2 s43.1).fLo) (w64 ((max p2.fLo y34) - (w64 (y37 - ((rdL s43.2 s43.1).fHi)))))) (min ((rdL s43.2 s43.1).fHi) (w64 ((min p2.fHi y37) - (w64 (y34 - ((rdL s43.2 s43.1).fLo)))))))))))) else some (.inr (s43.1, s43.2)))
theorem sample_Together_l3_le (fuel : Nat) (p2 : TSpan) (u22 : (Int × (List TSpan))) (y34 : Int) (y37 : Int) (s43 : (Int × (List TSpan))) : LeO (sample_Together_l3_c fuel p2 u22 y34 y37 s43) (sample_Together_l3 p2 u22 y34 y37 s43) := by
  unfold sample_Together_l3_c sample_Together_l3
  repeat' first
    | with_reducible apply LeO.bind
    | with_reducible apply LeO.guard
    | with_reducible apply LeO.ite
    | with_reducible apply LeO.loop
    | with_reducible apply LeO.fold
    | with_reducible exact LeO.refl _
    | (intro (u : Sum _ _); cases u <;> dsimp only)
    | intro _
def sample_Together_c (fuel : Nat) (p0 : (List TBatch)) (p1 : Int) (p2 : TSpan) : Option ((List TSpan) × Int) :=
  (if decide (12 < ((p0.length : Nat) : Int)) = true then some ([], 2) else ((loopF fuel (sample_Together_l1_c fuel p0) (0, 0)).bind fun u5 => match u5 with | (.inl u13) => some (([] : List TSpan), u13.1) | (.inr u14) => ((sample_isSort_c fuel p1).bind fun y15 => (if ((!y15) || (decide (p2.fHi < p2.fLo))) = true then some ([], 1) else ((loopF fuel (sample_Together_l2_c fuel p0 p1) (0, ([] : List TSpan))).bind fun u22 => ((sample_sum_calx_api_Span_c fuel u22.2 (fun x33 => sample_Together_1_c fuel x33)).bind fun y34 => ((sample_sum_calx_api_Span_c fuel u22.2 (fun x36 => sample_Together_2_c fuel x36)).bind fun y37 => (if ((decide (p2.fHi < y34)) || (decide (y37 < p2.fLo))) = true then some ([], 9) else ((loopF fuel (sample_Together_l3_c fuel p2 u22 y34 y37) (0, u22.2)).bind fun u44 => some (u44.2, 0))))))))))
theorem sample_Together_le (fuel : Nat) (p0 : (List TBatch)) (p1 : Int) (p2 : TSpan) : LeO (sample_Together_c fuel p0 p1 p2) (sample_Together p0 p1 p2) := by
  unfold sample_Together_c sample_Together
  repeat' first
    | with_reducible apply LeO.bind
    | with_reducible apply sample_Together_1_le
    | with_reducible apply sample_Together_2_le
    | with_reducible apply sample_Together_l1_le
    | with_reducible apply sample_Together_l2_le
    | with_reducible apply sample_Together_l3_le
    | with_reducible apply sample_isSort_le
    | with_reducible apply sample_sum_calx_api_Span_le
    | with_reducible apply LeO.guard
    | with_reducible apply LeO.ite
    | with_reducible apply LeO.loop
    | with_reducible apply LeO.fold
    | with_reducible exact LeO.refl _
    | (intro (u : Sum _ _); cases u <;> dsimp only)
    | intro _

/-! calx/calxref03.SameSpans -/
def calxref03_SameSpans_l1_c (fuel : Nat) (p0_a : (List TSpan)) (p1_b : (List TSpan)) (s3 : (Bool × Int)) : Option ((Bool × Int) ⊕ ((Bool × Int) ⊕ (Bool × Int))) :=
  (if decide (s3.2 < ((p0_a.length : Nat) : Int)) = true then guardO ((0 : Int) ≤ s3.2 ∧ s3.2 < ((p0_a.length : Nat) : Int)) (guardO ((0 : Int) ≤ s3.2 ∧ s3.2 < ((p1_b.length : Nat) : Int)) ((if (!(((rdL p0_a s3.2).fLo == (rdL p1_b s3.2).fLo) && ((rdL p0_a s3.2).fHi == (rdL p1_b s3.2).fHi))) = true then some (.inr (.inl (false, s3.2))) else some (.inl (s3.1, w64 (s3.2 + 1)))))) else some (.inr (.inr (s3.1, s3.2))))
theorem calxref03_SameSpans_l1_le (fuel : Nat) (p0_a : (List TSpan)) (p1_b : (List TSpan)) (s3 : (Bool × Int)) : LeO (calxref03_SameSpans_l1_c fuel p0_a p1_b s3) (calxref03_SameSpans_l1 p0_a p1_b s3) := by
  unfold calxref03_SameSpans_l1_c calxref03_SameSpans_l1
  repeat' first
    | with_reducible apply LeO.bind
    | with_reducible apply LeO.guard
    | with_reducible apply LeO.ite
    | with_reducible apply LeO.loop
    | with_reducible apply LeO.fold
    | with_reducible exact LeO.refl _
    | (intro (u : Sum _ _); cases u <;> dsimp only)
    | intro _
def calxref03_SameSpans_c (fuel : Nat) (p0_a : (List TSpan)) (p1_b : (List TSpan)) : Option Bool :=
  (if (((p0_a.length : Nat) : Int) != ((p1_b.length : Nat) : Int)) = true then some false else ((loopF fuel (calxref03_SameSpans_l1_c fuel p0_a p1_b) (false, 0)).bind fun u4 => match u4 with | (.inl u10) => some u10.1 | (.inr u11) => some true))
theorem calxref03_SameSpans_le (fuel : Nat) (p0_a : (List TSpan)) (p1_b : (List TSpan)) : LeO (calxref03_SameSpans_c fuel p0_a p1_b) (calxref03_SameSpans p0_a p1_b) := by
  unfold calxref03_SameSpans_c calxref03_SameSpans
  repeat' first
    | with_reducible apply LeO.bind
    | with_reducible apply calxref03_SameSpans_l1_le
    | with_reducible apply LeO.guard
    | with_reducible apply LeO.ite
    | with_reducible apply LeO.loop
    | with_reducible apply LeO.fold
    | with_reducible exact LeO.refl _
    | (intro (u : Sum _ _); cases u <;> dsimp only)
    | intro _

/-! calx/sample.Choose -/
def sample_Choose_c (fuel : Nat) (p0_barrows : Int) (p1_taken : Int) : Option (Int × Int) :=
  ((sample_within_c fuel p0_barrows 0 50).bind fun y1 => (if ((!y1) || (decide (p1_taken < 0))) = true then some (0, 1) else ((sample_choose_c fuel p0_barrows p1_taken).bind fun y5 => some (y5, 0))))
theorem sample_Choose_le (fuel : Nat) (p0_barrows : Int) (p1_taken : Int) : LeO (sample_Choose_c fuel p0_barrows p1_taken) (sample_Choose p0_barrows p1_taken) := by
  unfold sample_Choose_c sample_Choose
  repeat' first
    | with_reducible apply LeO.bind
    | with_reducible apply sample_choose_le
    | with_reducible apply sample_within_le
    | with_reducible apply LeO.guard
    | with_reducible apply LeO.ite
    | with_reducible apply LeO.loop
    | with_reducible apply LeO.fold
    | with_reducible exact LeO.refl _
    | (intro (u : Sum _ _); cases u <;> dsimp only)
    | intro _

/-! calx/sample.seenOf -/
def sample_seenOf_c (fuel : Nat) (p0_whole : TKinds) (p1_seen : TKinds) : Option Int :=
  ((sample_isSample_c fuel p0_whole).bind fun y3 => ((if (!y3) = true then (some (true)) else ((sample_size_c fuel p0_whole).bind fun y14 => ((sample_within_c fuel y14 1 50).bind fun y16 => some ((!y16))))).bind fun b6 => ((if b6 = true then (some (true)) else ((sample_isSample_c fuel p1_seen).bind fun y12 => some ((!y12)))).bind fun b9 => (if b9 = true then some 1 else some 0))))
theorem sample_seenOf_le (fuel : Nat) (p0_whole : TKinds) (p1_seen : TKinds) : LeO (sample_seenOf_c fuel p0_whole p1_seen) (sample_seenOf p0_whole p1_seen) := by
  unfold sample_seenOf_c sample_seenOf
  repeat' first
    | with_reducible apply LeO.bind
    | with_reducible apply sample_isSample_le
    | with_reducible apply sample_size_le
    | with_reducible apply sample_within_le
    | with_reducible apply LeO.guard
    | with_reducible apply LeO.ite
    | with_reducible apply LeO.loop
    | with_reducible apply LeO.fold
    | with_reducible exact LeO.refl _
    | (intro (u : Sum _ _); cases u <;> dsimp only)
    | intro _

/-! calx/sample.ways -/
def sample_ways_l1_c (fuel : Nat) (p0_whole : TKinds) (p1_seen : TKinds) (s4 : (Int × Int)) : Option ((Int × Int) ⊕ (Int × Int)) :=
  (if decide (s4.2 < 3) = true then guardO ((0 : Int) ≤ s4.2 ∧ s4.2 < 3) (guardO ((0 : Int) ≤ s4.2 ∧ s4.2 < 3) (((sample_choose_c fuel (sel3 p0_whole.x0 p0_whole.x1 p0_whole.x2 s4.2) (sel3 p1_seen.x0 p1_seen.x1 p1_seen.x2 s4.2)).bind fun y9 => some (.inl (w64 (s4.1 * y9), w64 (s4.2 + 1)))))) else some (.inr (s4.1, s4.2)))
theorem sample_ways_l1_le (fuel : Nat) (p0_whole : TKinds) (p1_seen : TKinds) (s4 : (Int × Int)) : LeO (sample_ways_l1_c fuel p0_whole p1_seen s4) (sample_ways_l1 p0_whole p1_seen s4) := by
  unfold sample_ways_l1_c sample_ways_l1
  repeat' first
    | with_reducible apply LeO.bind
    | with_reducible apply sample_choose_le
    | with_reducible apply LeO.guard
    | with_reducible apply LeO.ite
    | with_reducible apply LeO.loop
    | with_reducible apply LeO.fold
    | with_reducible exact LeO.refl _
    | (intro (u : Sum _ _); cases u <;> dsimp only)
    | intro _
def sample_ways_c (fuel : Nat) (p0_whole : TKinds) (p1_seen : TKinds) : Option Int :=
  ((loopF fuel (sample_ways_l1_c fuel p0_whole p1_seen) (1, 0)).bind fun u5 => some u5.1)
theorem sample_ways_le (fuel : Nat) (p0_whole : TKinds) (p1_seen : TKinds) : LeO (sample_ways_c fuel p0_whole p1_seen) (sample_ways p0_whole p1_seen) := by
  unfold sample_ways_c sample_ways
  repeat' first
    | with_reducible apply LeO.bind
    | with_reducible apply sample_ways_l1_le
    | with_reducible apply LeO.guard
    | with_reducible apply LeO.ite
    | with_reducible apply LeO.loop
    | with_reducible apply LeO.fold
    | with_reducible exact LeO.refl _
    | (intro (u : Sum _ _); cases u <;> dsimp only)
    | intro _

/-! calx/sample.Chance -/
def sample_Chance_c (fuel : Nat) (p0_whole : TKinds) (p1_seen : TKinds) : Option (TRatio × Int) :=
  ((sample_seenOf_c fuel p0_whole p1_seen).bind fun y4 => (if (y4 != 0) = true then some ((TRatio.mk 0 0), y4) else ((sample_size_c fuel p1_seen).bind fun y7 => ((sample_size_c fuel p0_whole).bind fun y9 => (if decide (y9 < y7) = true then some ((TRatio.mk 0 0), 3) else ((sample_ways_c fuel p0_whole p1_seen).bind fun y12 => ((sample_size_c fuel p0_whole).bind fun y14 => ((sample_size_c fuel p1_seen).bind fun y16 => ((sample_choose_c fuel y14 y16).bind fun y18 => ((sample_ratio_c fuel y12 y18).bind fun y20 => some (y20, 0)))))))))))
theorem sample_Chance_le (fuel : Nat) (p0_whole : TKinds) (p1_seen : TKinds) : LeO (sample_Chance_c fuel p0_whole p1_seen) (sample_Chance p0_whole p1_seen) := by
  unfold sample_Chance_c sample_Chance
  repeat' first
    | with_reducible apply LeO.bind
    | with_reducible apply sample_choose_le
    | with_reducible apply sample_ratio_le
    | with_reducible apply sample_seenOf_le
    | with_reducible apply sample_size_le
    | with_reducible apply sample_ways_le
    | with_reducible apply LeO.guard
    | with_reducible apply LeO.ite
    | with_reducible apply LeO.loop
    | with_reducible apply LeO.fold
    | with_reducible exact LeO.refl _
    | (intro (u : Sum _ _); cases u <;> dsimp only)
    | intro _

/-! slices.AppendSeq[[]calx/api.Kinds,calx/api.Kinds] -/
def slices_AppendSeq_calx_api_Kinds_calx_api_Kinds_r1_c (fuel : Nat) (s6 : (List TKinds)) (x7 : TKinds) : Option ((List TKinds) ⊕ Unit) :=
  guardO (s6.length + 1 ≤ 1000000000) (some (.inl (s6 ++ [x7])))
theorem slices_AppendSeq_calx_api_Kinds_calx_api_Kinds_r1_le (fuel : Nat) (s6 : (List TKinds)) (x7 : TKinds) : LeO (slices_AppendSeq_calx_api_Kinds_calx_api_Kinds_r1_c fuel s6 x7) (slices_AppendSeq_calx_api_Kinds_calx_api_Kinds_r1 s6 x7) := by
  unfold slices_AppendSeq_calx_api_Kinds_calx_api_Kinds_r1_c slices_AppendSeq_calx_api_Kinds_calx_api_Kinds_r1
  repeat' first
    | with_reducible apply LeO.bind
    | with_reducible apply LeO.guard
    | with_reducible apply LeO.ite
    | with_reducible apply LeO.loop
    | with_reducible apply LeO.fold
    | with_reducible exact LeO.refl _
    | (intro (u : Sum _ _); cases u <;> dsimp only)
    | intro _
def slices_AppendSeq_calx_api_Kinds_calx_api_Kinds_c (fuel : Nat) (p1_seq : TBatch) : Option (List TKinds) :=
  (guardO (sample_okB p1_seq) ((foldO (slices_AppendSeq_calx_api_Kinds_calx_api_Kinds_r1_c fuel) (sample_wh p1_seq) ([] : List TKinds)).bind fun u8 => match u8 with | .inl u16 => some u16 | .inr _ => none))
theorem slices_AppendSeq_calx_api_Kinds_calx_api_Kinds_le (fuel : Nat) (p1_seq : TBatch) : LeO (slices_AppendSeq_calx_api_Kinds_calx_api_Kinds_c fuel p1_seq) (slices_AppendSeq_calx_api_Kinds_calx_api_Kinds p1_seq) := by
  unfold slices_AppendSeq_calx_api_Kinds_calx_api_Kinds_c slices_AppendSeq_calx_api_Kinds_calx_api_Kinds
  repeat' first
    | with_reducible apply LeO.bind
    | with_reducible apply slices_AppendSeq_calx_api_Kinds_calx_api_Kinds_r1_le
    | with_reducible apply LeO.guard
    | with_reducible apply LeO.ite
    | with_reducible apply LeO.loop
    | with_reducible apply LeO.fold
    | with_reducible exact LeO.refl _
    | (intro (u : Sum _ _); cases u <;> dsimp only)
    | intro _

/-! slices.Collect[calx/api.Kinds] -/
def slices_Collect_calx_api_Kinds_c (fuel : Nat) (p0_seq : TBatch) : Option (List TKinds) :=
  ((slices_AppendSeq_calx_api_Kinds_calx_api_Kinds_c fuel p0_seq).bind fun y1 => some y1)
theorem slices_Collect_calx_api_Kinds_le (fuel : Nat) (p0_seq : TBatch) : LeO (slices_Collect_calx_api_Kinds_c fuel p0_seq) (slices_Collect_calx_api_Kinds p0_seq) := by
  unfold slices_Collect_calx_api_Kinds_c slices_Collect_calx_api_Kinds
  repeat' first
    | with_reducible apply LeO.bind
    | with_reducible apply slices_AppendSeq_calx_api_Kinds_calx_api_Kinds_le
    | with_reducible apply LeO.guard
    | with_reducible apply LeO.ite
    | with_reducible apply LeO.loop
    | with_reducible apply LeO.fold
    | with_reducible exact LeO.refl _
    | (intro (u : Sum _ _); cases u <;> dsimp only)
    | intro _

/-! calx/sample.Wholes -/
def sample_Wholes_c (fuel : Nat) (p0_b : TBatch) : Option ((List TKinds) × Int) :=
  ((sample_Check_c fuel p0_b).bind fun y2 => (if (y2 != 0) = true then some ([], y2) else ((sample_wholes_c fuel p0_b).bind fun y5 => ((slices_Collect_calx_api_Kinds_c fuel y5).bind fun y9 => some (y9, 0)))))
theorem sample_Wholes_le (fuel : Nat) (p0_b : TBatch) : LeO (sample_Wholes_c fuel p0_b) (sample_Wholes p0_b) := by
  unfold sample_Wholes_c sample_Wholes
  repeat' first
    | with_reducible apply LeO.bind
    | with_reducible apply sample_Check_le
    | with_reducible apply sample_wholes_le
    | with_reducible apply slices_Collect_calx_api_Kinds_le
    | with_reducible apply LeO.guard
    | with_reducible apply LeO.ite
    | with_reducible apply LeO.loop
    | with_reducible apply LeO.fold
    | with_reducible exact LeO.refl _
    | (intro (u : Sum _ _); cases u <;> dsimp only)
    | intro _

/-! calx/calxref03.SameKinds -/
def calxref03_SameKinds_l1_c (fuel : Nat) (p0_a : (List TKinds)) (p1_b : (List TKinds)) (s3 : (Bool × Int)) : Option ((Bool × Int) ⊕ ((Bool × Int) ⊕ (Bool × Int))) :=
  (if decide (s3.2 < ((p0_a.length : Nat) : Int)) = true then guardO ((0 : Int) ≤ s3.2 ∧ s3.2 < ((p0_a.length : Nat) : Int)) (guardO ((0 : Int) ≤ s3.2 ∧ s3.2 < ((p1_b.length : Nat) : Int)) ((if (!(((rdL p0_a s3.2).x0 == (rdL p1_b s3.2).x0) && ((rdL p0_a s3.2).x1 == (rdL p1_b s3.2).x1) && ((rdL p0_a s3.2).x2 == (rdL p1_b s3.2).x2))) = true then some (.inr (.inl (false, s3.2))) else some (.inl (s3.1, w64 (s3.2 + 1)))))) else some (.inr (.inr (s3.1, s3.2))))
theorem calxref03_SameKinds_l1_le (fuel : Nat) (p0_a : (List TKinds)) (p1_b : (List TKinds)) (s3 : (Bool × Int)) : LeO (calxref03_SameKinds_l1_c fuel p0_a p1_b s3) (calxref03_SameKinds_l1 p0_a p1_b s3) := by
  unfold calxref03_SameKinds_l1_c calxref03_SameKinds_l1
  repeat' first
    | with_reducible apply LeO.bind
    | with_reducible apply LeO.guard
    | with_reducible apply LeO.ite
    | with_reducible apply LeO.loop
    | with_reducible apply LeO.fold
    | with_reducible exact LeO.refl _
    | (intro (u : Sum _ _); cases u <;> dsimp only)
    | intro _
def calxref03_SameKinds_c (fuel : Nat) (p0_a : (List TKinds)) (p1_b : (List TKinds)) : Option Bool :=
  (if (((p0_a.length : Nat) : Int) != ((p1_b.length : Nat) : Int)) = true then some false else ((loopF fuel (calxref03_SameKinds_l1_c fuel p0_a p1_b) (false, 0)).bind fun u4 => match u4 with | (.inl u10) => some u10.1 | (.inr u11) => some true))
theorem calxref03_SameKinds_le (fuel : Nat) (p0_a : (List TKinds)) (p1_b : (List TKinds)) : LeO (calxref03_SameKinds_c fuel p0_a p1_b) (calxref03_SameKinds p0_a p1_b) := by
  unfold calxref03_SameKinds_c calxref03_SameKinds
  repeat' first
    | with_reducible apply LeO.bind
    | with_reducible apply calxref03_SameKinds_l1_le
    | with_reducible apply LeO.guard
    | with_reducible apply LeO.ite
    | with_reducible apply LeO.loop
    | with_reducible apply LeO.fold
    | with_reducible exact LeO.refl _
    | (intro (u : Sum _ _); cases u <;> dsimp only)
    | intro _

/-! calx/sample.sorted -/
def sample_sorted_c (fuel : Nat) (p0_b : TBatch) (p1_sort : Int) : Option Int :=
  ((sample_Check_c fuel p0_b).bind fun y2 => (if (y2 != 0) = true then some y2 else ((sample_isSort_c fuel p1_sort).bind fun y5 => (if (!y5) = true then some 1 else some 0))))
theorem sample_sorted_le (fuel : Nat) (p0_b : TBatch) (p1_sort : Int) : LeO (sample_sorted_c fuel p0_b p1_sort) (sample_sorted p0_b p1_sort) := by
  unfold sample_sorted_c sample_sorted
  repeat' first
    | with_reducible apply LeO.bind
    | with_reducible apply sample_Check_le
    | with_reducible apply sample_isSort_le
    | with_reducible apply LeO.guard
    | with_reducible apply LeO.ite
    | with_reducible apply LeO.loop
    | with_reducible apply LeO.fold
    | with_reducible exact LeO.refl _
    | (intro (u : Sum _ _); cases u <;> dsimp only)
    | intro _

/-! calx/sample.weights -/
def sample_weights_r1_c (fuel : Nat) (p0_b : TBatch) (p1_sort : Int) (s13 : (List (Int × Int))) (x14 : TKinds) : Option ((List (Int × Int)) ⊕ Unit) :=
  guardO ((0 : Int) ≤ p1_sort ∧ p1_sort < 3) (guardO (rngB (sel3 x14.x0 x14.x1 x14.x2 p1_sort) = true) (((sample_ways_c fuel x14 p0_b.fSeen).bind fun y19 => guardO (rngB (sel3 x14.x0 x14.x1 x14.x2 p1_sort) = true ∧ rngB (w64 ((mget s13 (sel3 x14.x0 x14.x1 x14.x2 p1_sort)) + y19)) = true ∧ List.length s13 < 1000000) (some (.inl ((sel3 x14.x0 x14.x1 x14.x2 p1_sort, w64 ((mget s13 (sel3 x14.x0 x14.x1 x14.x2 p1_sort)) + y19)) :: s13))))))
theorem sample_weights_r1_le (fuel : Nat) (p0_b : TBatch) (p1_sort : Int) (s13 : (List (Int × Int))) (x14 : TKinds) : LeO (sample_weights_r1_c fuel p0_b p1_sort s13 x14) (sample_weights_r1 p0_b p1_sort s13 x14) := by
  unfold sample_weights_r1_c sample_weights_r1
  repeat' first
    | with_reducible apply LeO.bind
    | with_reducible apply sample_ways_le
    | with_reducible apply LeO.guard
    | with_reducible apply LeO.ite
    | with_reducible apply LeO.loop
    | with_reducible apply LeO.fold
    | with_reducible exact LeO.refl _
    | (intro (u : Sum _ _); cases u <;> dsimp only)
    | intro _
def sample_weights_l2_c (fuel : Nat) (p0_b : TBatch) (u24 : (List (Int × Int))) (s29 : (Int × (List Int))) : Option ((Int × (List Int)) ⊕ (Int × (List Int))) :=
  (if decide (s29.1 < ((Int.toNat (w64 (p0_b.fBarrows + 1)) : Nat) : Int)) = true then guardO (rngB s29.1 = true) (guardO ((0 : Int) ≤ s29.1 ∧ s29.1 < ((Int.toNat (w64 (p0_b.fBarrows + 1)) : Nat) : Int)) (some (.inl (w64 (s29.1 + 1), (s29.2.set (Int.toNat s29.1) (mget u24 s29.1)))))) else some (.inr (s29.1, s29.2)))
theorem sample_weights_l2_le (fuel : Nat) (p0_b : TBatch) (u24 : (List (Int × Int))) (s29 : (Int × (List Int))) : LeO (sample_weights_l2_c fuel p0_b u24 s29) (sample_weights_l2 p0_b u24 s29) := by
  unfold sample_weights_l2_c sample_weights_l2
  repeat' first
    | with_reducible apply LeO.bind
    | with_reducible apply LeO.guard
    | with_reducible apply LeO.ite
    | with_reducible apply LeO.loop
    | with_reducible apply LeO.fold
    | with_reducible exact LeO.refl _
    | (intro (u : Sum _ _); cases u <;> dsimp only)
    | intro _
def sample_weights_c (fuel : Nat) (p0_b : TBatch) (p1_sort : Int) : Option (List Int) :=
  ((sample_wholes_c fuel p0_b).bind fun y5 => (guardO (sample_okB y5) ((foldO (sample_weights_r1_c fuel p0_b p1_sort) (sample_wh y5) []).bind fun u15 => match u15 with | .inl u24 => guardO ((0 : Int) ≤ w64 (p0_b.fBarrows + 1) ∧ (w64 (p0_b.fBarrows + 1)) * 8 ≤ 281474976710656) (((loopF fuel (sample_weights_l2_c fuel p0_b u24) (0, (List.replicate (Int.toNat (w64 (p0_b.fBarrows + 1))) 0))).bind fun u30 => some u30.2)) | .inr _ => none)))
theorem sample_weights_le (fuel : Nat) (p0_b : TBatch) (p1_sort : Int) : LeO (sample_weights_c fuel p0_b p1_sort) (sample_weights p0_b p1_sort) := by
  unfold sample_weights_c sample_weights
  repeat' first
    | with_reducible apply LeO.bind
    | with_reducible apply sample_weights_l2_le
    | with_reducible apply sample_weights_r1_le
    | with_reducible apply sample_wholes_le
    | with_reducible apply LeO.guard
    | with_reducible apply LeO.ite
    | with_reducible apply LeO.loop
    | with_reducible apply LeO.fold
    | with_reducible exact LeO.refl _
    | (intro (u : Sum _ _); cases u <;> dsimp only)
    | intro _

/-! calx/sample.total -/
def sample_total_l1_c (fuel : Nat) (p0_w : (List Int)) (p1_less : Int) (s2 : (Int × Int)) : Option ((Int × Int) ⊕ (Int × Int)) :=
  (if decide (s2.2 < ((p0_w.length : Nat) : Int)) = true then guardO ((0 : Int) ≤ s2.2 ∧ s2.2 < ((p0_w.length : Nat) : Int)) (some (.inl (w64 (s2.1 + (w64 ((w64 (s2.2 - p1_less)) * (rdL p0_w s2.2)))), w64 (s2.2 + 1)))) else some (.inr (s2.1, s2.2)))
theorem sample_total_l1_le (fuel : Nat) (p0_w : (List Int)) (p1_less : Int) (s2 : (Int × Int)) : LeO (sample_total_l1_c fuel p0_w p1_less s2) (sample_total_l1 p0_w p1_less s2) := by
  unfold sample_total_l1_c sample_total_l1
  repeat' first
    | with_reducible apply LeO.bind
    | with_reducible apply LeO.guard
    | with_reducible apply LeO.ite
    | with_reducible apply LeO.loop
    | with_reducible apply LeO.fold
    | with_reducible exact LeO.refl _
    | (intro (u : Sum _ _); cases u <;> dsimp only)
    | intro _
def sample_total_c (fuel : Nat) (p0_w : (List Int)) (p1_less : Int) : Option Int :=
  ((loopF fuel (sample_total_l1_c fuel p0_w p1_less) (0, 0)).bind fun u3 => some u3.1)
theorem sample_total_le (fuel : Nat) (p0_w : (List Int)) (p1_less : Int) : LeO (sample_total_c fuel p0_w p1_less) (sample_total p0_w p1_less) := by
  unfold sample_total_c sample_total
  repeat' first
    | with_reducible apply LeO.bind
    | with_reducible apply sample_total_l1_le
    | with_reducible apply LeO.guard
    | with_reducible apply LeO.ite
    | with_reducible apply LeO.loop
    | with_reducible apply LeO.fold
    | with_reducible exact LeO.refl _
    | (intro (u : Sum _ _); cases u <;> dsimp only)
    | intro _

/-! calx/sample.own -/
def sample_own_c (fuel : Nat) (p0_n : Int) : Option Int :=
  some p0_n
theorem sample_own_le (fuel : Nat) (p0_n : Int) : LeO (sample_own_c fuel p0_n) (sample_own p0_n) := by
  unfold sample_own_c sample_own
  repeat' first
    | with_reducible apply LeO.bind
    | with_reducible apply LeO.guard
    | with_reducible apply LeO.ite
    | with_reducible apply LeO.loop
    | with_reducible apply LeO.fold
    | with_reducible exact LeO.refl _
    | (intro (u : Sum _ _); cases u <;> dsimp only)
    | intro _

/-! calx/sample.Mean -/
def sample_Mean_c (fuel : Nat) (p0_b : TBatch) (p1_sort : Int) : Option (TRatio × Int) :=
  ((sample_sorted_c fuel p0_b p1_sort).bind fun y3 => (if (y3 != 0) = true then some ((TRatio.mk 0 0), y3) else ((sample_weights_c fuel p0_b p1_sort).bind fun y6 => ((sample_total_c fuel y6 0).bind fun y12 => ((sample_sum_int_c fuel y6 (fun x14 => sample_own_c fuel x14)).bind fun y15 => ((sample_ratio_c fuel y12 y15).bind fun y17 => some (y17, 0)))))))
theorem sample_Mean_le (fuel : Nat) (p0_b : TBatch) (p1_sort : Int) : LeO (sample_Mean_c fuel p0_b p1_sort) (sample_Mean p0_b p1_sort) := by
  unfold sample_Mean_c sample_Mean
  repeat' first
    | with_reducible apply LeO.bind
    | with_reducible apply sample_own_le
    | with_reducible apply sample_ratio_le
    | with_reducible apply sample_sorted_le
    | with_reducible apply sample_sum_int_le
    | with_reducible apply sample_total_le
    | with_reducible apply sample_weights_le
    | with_reducible apply LeO.guard
    | with_reducible apply LeO.ite
    | with_reducible apply LeO.loop
    | with_reducible apply LeO.fold
    | with_reducible exact LeO.refl _
    | (intro (u : Sum _ _); cases u <;> dsimp only)
    | intro _

/-! calx/sample.Weights -/
def sample_Weights_c (fuel : Nat) (p0_b : TBatch) (p1_sort : Int) : Option ((List Int) × Int) :=
  ((sample_sorted_c fuel p0_b p1_sort).bind fun y2 => (if (y2 != 0) = true then some ([], y2) else ((sample_weights_c fuel p0_b p1_sort).bind fun y5 => some (y5, 0))))
theorem sample_Weights_le (fuel : Nat) (p0_b : TBatch) (p1_sort : Int) : LeO (sample_Weights_c fuel p0_b p1_sort) (sample_Weights p0_b p1_sort) := by
  unfold sample_Weights_c sample_Weights
  repeat' first
    | with_reducible apply LeO.bind
    | with_reducible apply sample_sorted_le
    | with_reducible apply sample_weights_le
    | with_reducible apply LeO.guard
    | with_reducible apply LeO.ite
    | with_reducible apply LeO.loop
    | with_reducible apply LeO.fold
    | with_reducible exact LeO.refl _
    | (intro (u : Sum _ _); cases u <;> dsimp only)
    | intro _

/-! calx/sample.Next -/
def sample_Next_c (fuel : Nat) (p0_b : TBatch) (p1_sort : Int) : Option (TRatio × Int) :=
  ((sample_sorted_c fuel p0_b p1_sort).bind fun y3 => (if (y3 != 0) = true then some ((TRatio.mk 0 0), y3) else ((sample_size_c fuel p0_b.fSeen).bind fun y6 => (if ((w64 (p0_b.fBarrows - y6)) == 0) = true then some ((TRatio.mk 0 0), 5) else ((sample_weights_c fuel p0_b p1_sort).bind fun y9 => guardO ((0 : Int) ≤ p1_sort ∧ p1_sort < 3) (((sample_total_c fuel y9 (sel3 p0_b.fSeen.x0 p0_b.fSeen.x1 p0_b.fSeen.x2 p1_sort)).bind fun y16 => ((sample_sum_int_c fuel y9 (fun x18 => sample_own_c fuel x18)).bind fun y19 => ((sample_ratio_c fuel y16 (w64 (y19 * (w64 (p0_b.fBarrows - y6))))).bind fun y21 => some (y21, 0))))))))))
theorem sample_Next_le (fuel : Nat) (p0_b : TBatch) (p1_sort : Int) : LeO (sample_Next_c fuel p0_b p1_sort) (sample_Next p0_b p1_sort) := by
  unfold sample_Next_c sample_Next
  repeat' first
    | with_reducible apply LeO.bind
    | with_reducible apply sample_own_le
    | with_reducible apply sample_ratio_le
    | with_reducible apply sample_size_le
    | with_reducible apply sample_sorted_le
    | with_reducible apply sample_sum_int_le
    | with_reducible apply sample_total_le
    | with_reducible apply sample_weights_le
    | with_reducible apply LeO.guard
    | with_reducible apply LeO.ite
    | with_reducible apply LeO.loop
    | with_reducible apply LeO.fold
    | with_reducible exact LeO.refl _
    | (intro (u : Sum _ _); cases u <;> dsimp only)
    | intro _

/-! calx/sample.leveled -/
def sample_leveled_c (fuel : Nat) (p0_b : TBatch) (p1_sort : Int) (p2_level : TRatio) : Option Int :=
  ((sample_sorted_c fuel p0_b p1_sort).bind fun y3 => (if (y3 != 0) = true then some y3 else ((sample_isLevel_c fuel p2_level).bind fun y6 => (if (!y6) = true then some 1 else some 0))))
theorem sample_leveled_le (fuel : Nat) (p0_b : TBatch) (p1_sort : Int) (p2_level : TRatio) : LeO (sample_leveled_c fuel p0_b p1_sort p2_level) (sample_leveled p0_b p1_sort p2_level) := by
  unfold sample_leveled_c sample_leveled
  repeat' first
    | with_reducible apply LeO.bind
    | with_reducible apply sample_isLevel_le
    | with_reducible apply sample_sorted_le
    | with_reducible apply LeO.guard
    | with_reducible apply LeO.ite
    | with_reducible apply LeO.loop
    | with_reducible apply LeO.fold
    | with_reducible exact LeO.refl _
    | (intro (u : Sum _ _); cases u <;> dsimp only)
    | intro _

/-! calx/sample.inSpan -/
def sample_inSpan_c (fuel : Nat) (p0_w : (List Int)) (p1_s : TSpan) : Option Int :=
  (if decide (min (w64 (((p0_w.length : Nat) : Int) - 1)) p1_s.fHi < max 0 p1_s.fLo) = true then some 0 else guardO ((0 : Int) ≤ max 0 p1_s.fLo ∧ max 0 p1_s.fLo ≤ w64 ((min (w64 (((p0_w.length : Nat) : Int) - 1)) p1_s.fHi) + 1) ∧ w64 ((min (w64 (((p0_w.length : Nat) : Int) - 1)) p1_s.fHi) + 1) ≤ ((p0_w.length : Nat) : Int)) (((sample_sum_int_c fuel ((p0_w.drop (Int.toNat (max 0 p1_s.fLo))).take (Int.toNat (w64 ((min (w64 (((p0_w.length : Nat) : Int) - 1)) p1_s.fHi) + 1)) - Int.toNat (max 0 p1_s.fLo))) (fun x4 => sample_own_c fuel x4)).bind fun y5 => some y5)))
theorem sample_inSpan_le (fuel : Nat) (p0_w : (List Int)) (p1_s : TSpan) : LeO (sample_inSpan_c fuel p0_w p1_s) (sample_inSpan p0_w p1_s) := by
  unfold sample_inSpan_c sample_inSpan
  repeat' first
    | with_reducible apply LeO.bind
    | with_reducible apply sample_own_le
    | with_reducible apply sample_sum_int_le
    | with_reducible apply LeO.guard
    | with_reducible apply LeO.ite
    | with_reducible apply LeO.loop
    | with_reducible apply LeO.fold
    | with_reducible exact LeO.refl _
    | (intro (u : Sum _ _); cases u <;> dsimp only)
    | intro _

/-! calx/sample.shortest -/
def sample_shortest_l2_c (fuel : Nat) (p0_w : (List Int)) (y6 : (TRatio × Int)) (s13 : (Int × Int × Int)) (s18 : (Int × Int × Int)) : Option ((Int × Int × Int) ⊕ ((Int × Int × Int) ⊕ (Int × Int × Int))) :=
  (if decide (s18.1 < w64 (((p0_w.length : Nat) : Int) - s13.1)) = true then ((sample_inSpan_c fuel p0_w (TSpan.mk s18.1 (w64 (s18.1 + s13.1)))).bind fun y22 => ((sample_reaches_1_c fuel y22 y6.1 y6.2).bind fun y24 => (if y24 = true then some (.inr (.inl (s18.1, s18.1, w64 (s18.1 + s13.1)))) else some (.inl (w64 (s18.1 + 1), s18.2.1, s18.2.2))))) else some (.inr (.inr (s18.1, s18.2.1, s18.2.2))))
theorem sample_shortest_l2_le (fuel : Nat) (p0_w : (List Int)) (y6 : (TRatio × Int)) (s13 : (Int × Int × Int)) (s18 : (Int × Int × Int)) : LeO (sample_shortest_l2_c fuel p0_w y6 s13 s18) (sample_shortest_l2 p0_w y6 s13 s18) := by
  unfold sample_shortest_l2_c sample_shortest_l2
  repeat' first
    | with_reducible apply LeO.bind
    | with_reducible apply sample_inSpan_le
    | with_reducible apply sample_reaches_1_le
    | with_reducible apply LeO.guard
    | with_reducible apply LeO.ite
    | with_reducible apply LeO.loop
    | with_reducible apply LeO.fold
    | with_reducible exact LeO.refl _
    | (intro (u : Sum _ _); cases u <;> dsimp only)
    | intro _
def sample_shortest_l1_c (fuel : Nat) (p0_w : (List Int)) (y6 : (TRatio × Int)) (s13 : (Int × Int × Int)) : Option ((Int × Int × Int) ⊕ (Int × Int × Int)) :=
  (if decide (s13.1 < ((p0_w.length : Nat) : Int)) = true then ((loopF fuel (sample_shortest_l2_c fuel p0_w y6 s13) (0, s13.2.1, s13.2.2)).bind fun u19 => match u19 with | (.inl u28) => some (.inr (s13.1, u28.2.1, u28.2.2)) | (.inr u29) => some (.inl (w64 (s13.1 + 1), u29.2.1, u29.2.2))) else some (.inr (s13.1, s13.2.1, s13.2.2)))
theorem sample_shortest_l1_le (fuel : Nat) (p0_w : (List Int)) (y6 : (TRatio × Int)) (s13 : (Int × Int × Int)) : LeO (sample_shortest_l1_c fuel p0_w y6 s13) (sample_shortest_l1 p0_w y6 s13) := by
  unfold sample_shortest_l1_c sample_shortest_l1
  repeat' first
    | with_reducible apply LeO.bind
    | with_reducible apply sample_shortest_l2_le
    | with_reducible apply LeO.guard
    | with_reducible apply LeO.ite
    | with_reducible apply LeO.loop
    | with_reducible apply LeO.fold
    | with_reducible exact LeO.refl _
    | (intro (u : Sum _ _); cases u <;> dsimp only)
    | intro _
def sample_shortest_c (fuel : Nat) (p0_w : (List Int)) (p1_level : TRatio) : Option TSpan :=
  ((sample_sum_int_c fuel p0_w (fun x3 => sample_own_c fuel x3)).bind fun y4 => ((sample_reaches_c fuel p1_level y4).bind fun y6 => ((loopF fuel (sample_shortest_l1_c fuel p0_w y6) (0, 0, w64 (((p0_w.length : Nat) : Int) - 1))).bind fun u14 => some (TSpan.mk u14.2.1 u14.2.2))))
theorem sample_shortest_le (fuel : Nat) (p0_w : (List Int)) (p1_level : TRatio) : LeO (sample_shortest_c fuel p0_w p1_level) (sample_shortest p0_w p1_level) := by
  unfold sample_shortest_c sample_shortest
  repeat' first
    | with_reducible apply LeO.bind
    | with_reducible apply sample_own_le
    | with_reducible apply sample_reaches_le
    | with_reducible apply sample_shortest_l1_le
    | with_reducible apply sample_sum_int_le
    | with_reducible apply LeO.guard
    | with_reducible apply LeO.ite
    | with_reducible apply LeO.loop
    | with_reducible apply LeO.fold
    | with_reducible exact LeO.refl _
    | (intro (u : Sum _ _); cases u <;> dsimp only)
    | intro _

/-! calx/sample.Shortest -/
def sample_Shortest_c (fuel : Nat) (p0_b : TBatch) (p1_sort : Int) (p2_level : TRatio) : Option (TSpan × Int) :=
  ((sample_leveled_c fuel p0_b p1_sort p2_level).bind fun y4 => (if (y4 != 0) = true then some ((TSpan.mk 0 0), y4) else ((sample_weights_c fuel p0_b p1_sort).bind fun y7 => ((sample_shortest_c fuel y7 p2_level).bind fun y13 => some (y13, 0)))))
theorem sample_Shortest_le (fuel : Nat) (p0_b : TBatch) (p1_sort : Int) (p2_level : TRatio) : LeO (sample_Shortest_c fuel p0_b p1_sort p2_level) (sample_Shortest p0_b p1_sort p2_level) := by
  unfold sample_Shortest_c sample_Shortest
  repeat' first
    | with_reducible apply LeO.bind
    | with_reducible apply sample_leveled_le
    | with_reducible apply sample_shortest_le
    | with_reducible apply sample_weights_le
    | with_reducible apply LeO.guard
    | with_reducible apply LeO.ite
    | with_reducible apply LeO.loop
    | with_reducible apply LeO.fold
    | with_reducible exact LeO.refl _
    | (intro (u : Sum _ _); cases u <;> dsimp only)
    | intro _

/-! calx/calxref03.SameInts -/
def calxref03_SameInts_l1_c (fuel : Nat) (p0_a : (List Int)) (p1_b : (List Int)) (s3 : (Bool × Int)) : Option ((Bool × Int) ⊕ ((Bool × Int) ⊕ (Bool × Int))) :=
  (if decide (s3.2 < ((p0_a.length : Nat) : Int)) = true then guardO ((0 : Int) ≤ s3.2 ∧ s3.2 < ((p0_a.length : Nat) : Int)) (guardO ((0 : Int) ≤ s3.2 ∧ s3.2 < ((p1_b.length : Nat) : Int)) ((if ((rdL p0_a s3.2) != (rdL p1_b s3.2)) = true then some (.inr (.inl (false, s3.2))) else some (.inl (s3.1, w64 (s3.2 + 1)))))) else some (.inr (.inr (s3.1, s3.2))))
theorem calxref03_SameInts_l1_le (fuel : Nat) (p0_a : (List Int)) (p1_b : (List Int)) (s3 : (Bool × Int)) : LeO (calxref03_SameInts_l1_c fuel p0_a p1_b s3) (calxref03_SameInts_l1 p0_a p1_b s3) := by
  unfold calxref03_SameInts_l1_c calxref03_SameInts_l1
  repeat' first
    | with_reducible apply LeO.bind
    | with_reducible apply LeO.guard
    | with_reducible apply LeO.ite
    | with_reducible apply LeO.loop
    | with_reducible apply LeO.fold
    | with_reducible exact LeO.refl _
    | (intro (u : Sum _ _); cases u <;> dsimp only)
    | intro _
def calxref03_SameInts_c (fuel : Nat) (p0_a : (List Int)) (p1_b : (List Int)) : Option Bool :=
  (if (((p0_a.length : Nat) : Int) != ((p1_b.length : Nat) : Int)) = true then some false else ((loopF fuel (calxref03_SameInts_l1_c fuel p0_a p1_b) (false, 0)).bind fun u4 => match u4 with | (.inl u10) => some u10.1 | (.inr u11) => some true))
theorem calxref03_SameInts_le (fuel : Nat) (p0_a : (List Int)) (p1_b : (List Int)) : LeO (calxref03_SameInts_c fuel p0_a p1_b) (calxref03_SameInts p0_a p1_b) := by
  unfold calxref03_SameInts_c calxref03_SameInts
  repeat' first
    | with_reducible apply LeO.bind
    | with_reducible apply calxref03_SameInts_l1_le
    | with_reducible apply LeO.guard
    | with_reducible apply LeO.ite
    | with_reducible apply LeO.loop
    | with_reducible apply LeO.fold
    | with_reducible exact LeO.refl _
    | (intro (u : Sum _ _); cases u <;> dsimp only)
    | intro _

/-! calx/sample.taken -/
def sample_taken_c (fuel : Nat) (p0_barrows : Int) (p1_many : Int) (p2_seen : Int) (p3_level : TRatio) : Option Int :=
  ((sample_within_c fuel p0_barrows 1 50).bind fun y2 => ((if (!y2) = true then (some (true)) else ((sample_within_c fuel p1_many 0 p0_barrows).bind fun y18 => some ((!y18)))).bind fun b5 => ((if b5 = true then (some (true)) else ((sample_within_c fuel p2_seen 0 p1_many).bind fun y16 => some ((!y16)))).bind fun b8 => ((if b8 = true then (some (true)) else ((sample_isLevel_c fuel p3_level).bind fun y14 => some ((!y14)))).bind fun b11 => (if b11 = true then some 1 else some 0)))))
theorem sample_taken_le (fuel : Nat) (p0_barrows : Int) (p1_many : Int) (p2_seen : Int) (p3_level : TRatio) : LeO (sample_taken_c fuel p0_barrows p1_many p2_seen p3_level) (sample_taken p0_barrows p1_many p2_seen p3_level) := by
  unfold sample_taken_c sample_taken
  repeat' first
    | with_reducible apply LeO.bind
    | with_reducible apply sample_isLevel_le
    | with_reducible apply sample_within_le
    | with_reducible apply LeO.guard
    | with_reducible apply LeO.ite
    | with_reducible apply LeO.loop
    | with_reducible apply LeO.fold
    | with_reducible exact LeO.refl _
    | (intro (u : Sum _ _); cases u <;> dsimp only)
    | intro _

/-! calx/sample.Upper -/
def sample_Upper_l1_c (fuel : Nat) (p0_barrows : Int) (p1_many : Int) (p2_seen : Int) (y7 : (TRatio × Int)) (s12 : Int) : Option (Int ⊕ Int) :=
  ((sample_atMost_c fuel p0_barrows s12 p1_many p2_seen).bind fun y14 => ((sample_reaches_1_c fuel y14 y7.1 y7.2).bind fun y16 => (if (!y16) = true then some (.inl (w64 (s12 - 1))) else some (.inr s12))))
theorem sample_Upper_l1_le (fuel : Nat) (p0_barrows : Int) (p1_many : Int) (p2_seen : Int) (y7 : (TRatio × Int)) (s12 : Int) : LeO (sample_Upper_l1_c fuel p0_barrows p1_many p2_seen y7 s12) (sample_Upper_l1 p0_barrows p1_many p2_seen y7 s12) := by
  unfold sample_Upper_l1_c sample_Upper_l1
  repeat' first
    | with_reducible apply LeO.bind
    | with_reducible apply sample_atMost_le
    | with_reducible apply sample_reaches_1_le
    | with_reducible apply LeO.guard
    | with_reducible apply LeO.ite
    | with_reducible apply LeO.loop
    | with_reducible apply LeO.fold
    | with_reducible exact LeO.refl _
    | (intro (u : Sum _ _); cases u <;> dsimp only)
    | intro _
def sample_Upper_c (fuel : Nat) (p0_barrows : Int) (p1_many : Int) (p2_seen : Int) (p3_level : TRatio) : Option (Int × Int) :=
  ((sample_taken_c fuel p0_barrows p1_many p2_seen p3_level).bind fun y2 => (if (y2 != 0) = true then some (0, y2) else ((sample_choose_c fuel p0_barrows p1_many).bind fun y5 => ((sample_reaches_c fuel p3_level y5).bind fun y7 => ((loopF fuel (sample_Upper_l1_c fuel p0_barrows p1_many p2_seen y7) p0_barrows).bind fun u13 => some (u13, 0))))))
theorem sample_Upper_le (fuel : Nat) (p0_barrows : Int) (p1_many : Int) (p2_seen : Int) (p3_level : TRatio) : LeO (sample_Upper_c fuel p0_barrows p1_many p2_seen p3_level) (sample_Upper p0_barrows p1_many p2_seen p3_level) := by
  unfold sample_Upper_c sample_Upper
  repeat' first
    | with_reducible apply LeO.bind
    | with_reducible apply sample_Upper_l1_le
    | with_reducible apply sample_choose_le
    | with_reducible apply sample_reaches_le
    | with_reducible apply sample_taken_le
    | with_reducible apply LeO.guard
    | with_reducible apply LeO.ite
    | with_reducible apply LeO.loop
    | with_reducible apply LeO.fold
    | with_reducible exact LeO.refl _
    | (intro (u : Sum _ _); cases u <;> dsimp only)
    | intro _

/-! calx/sample.Lower -/
def sample_Lower_l1_c (fuel : Nat) (p0_barrows : Int) (p1_many : Int) (p2_seen : Int) (y5 : Int) (y7 : (TRatio × Int)) (s12 : Int) : Option (Int ⊕ Int) :=
  ((sample_atMost_c fuel p0_barrows s12 p1_many (w64 (p2_seen - 1))).bind fun y14 => ((sample_reaches_1_c fuel (w64 (y5 - y14)) y7.1 y7.2).bind fun y16 => (if (!y16) = true then some (.inl (w64 (s12 + 1))) else some (.inr s12))))
theorem sample_Lower_l1_le (fuel : Nat) (p0_barrows : Int) (p1_many : Int) (p2_seen : Int) (y5 : Int) (y7 : (TRatio × Int)) (s12 : Int) : LeO (sample_Lower_l1_c fuel p0_barrows p1_many p2_seen y5 y7 s12) (sample_Lower_l1 p0_barrows p1_many p2_seen y5 y7 s12) := by
  unfold sample_Lower_l1_c sample_Lower_l1
  repeat' first
    | with_reducible apply LeO.bind
    | with_reducible apply sample_atMost_le
    | with_reducible apply sample_reaches_1_le
    | with_reducible apply LeO.guard
    | with_reducible apply LeO.ite
    | with_reducible apply LeO.loop
    | with_reducible apply LeO.fold
    | with_reducible exact LeO.refl _
    | (intro (u : Sum _ _); cases u <;> dsimp only)
    | intro _
def sample_Lower_c (fuel : Nat) (p0_barrows : Int) (p1_many : Int) (p2_seen : Int) (p3_level : TRatio) : Option (Int × Int) :=
  ((sample_taken_c fuel p0_barrows p1_many p2_seen p3_level).bind fun y2 => (if (y2 != 0) = true then some (0, y2) else ((sample_choose_c fuel p0_barrows p1_many).bind fun y5 => ((sample_reaches_c fuel p3_level y5).bind fun y7 => ((loopF fuel (sample_Lower_l1_c fuel p0_barrows p1_many p2_seen y5 y7) 0).bind fun u13 => some (u13, 0))))))
theorem sample_Lower_le (fuel : Nat) (p0_barrows : Int) (p1_many : Int) (p2_seen : Int) (p3_level : TRatio) : LeO (sample_Lower_c fuel p0_barrows p1_many p2_seen p3_level) (sample_Lower p0_barrows p1_many p2_seen p3_level) := by
  unfold sample_Lower_c sample_Lower
  repeat' first
    | with_reducible apply LeO.bind
    | with_reducible apply sample_Lower_l1_le
    | with_reducible apply sample_choose_le
    | with_reducible apply sample_reaches_le
    | with_reducible apply sample_taken_le
    | with_reducible apply LeO.guard
    | with_reducible apply LeO.ite
    | with_reducible apply LeO.loop
    | with_reducible apply LeO.fold
    | with_reducible exact LeO.refl _
    | (intro (u : Sum _ _); cases u <;> dsimp only)
    | intro _

/-! calx/calxlaw03.Three -/
def calxlaw03_Three_c (fuel : Nat)  : Option TBatch :=
  some (TBatch.mk 3 (TKinds.mk 1 1 0) (TArr3_TSpan.mk (TSpan.mk 0 3) (TSpan.mk 0 3) (TSpan.mk 0 3)))
theorem calxlaw03_Three_le (fuel : Nat) : LeO (calxlaw03_Three_c fuel) (calxlaw03_Three) := by
  unfold calxlaw03_Three_c calxlaw03_Three
  repeat' first
    | with_reducible apply LeO.bind
    | with_reducible apply LeO.guard
    | with_reducible apply LeO.ite
    | with_reducible apply LeO.loop
    | with_reducible apply LeO.fold
    | with_reducible exact LeO.refl _
    | (intro (u : Sum _ _); cases u <;> dsimp only)
    | intro _

/-! calx/calxlaw03.half -/
def calxlaw03_half_c (fuel : Nat)  : Option TRatio :=
  some (TRatio.mk 1 2)
theorem calxlaw03_half_le (fuel : Nat) : LeO (calxlaw03_half_c fuel) (calxlaw03_half) := by
  unfold calxlaw03_half_c calxlaw03_half
  repeat' first
    | with_reducible apply LeO.bind
    | with_reducible apply LeO.guard
    | with_reducible apply LeO.ite
    | with_reducible apply LeO.loop
    | with_reducible apply LeO.fold
    | with_reducible exact LeO.refl _
    | (intro (u : Sum _ _); cases u <;> dsimp only)
    | intro _

/-! calx/calxlaw03.head -/
def calxlaw03_head_c (fuel : Nat)  : Option Bool :=
  ((calxlaw03_Three_c fuel).bind fun y1 => ((sample_Choose_c fuel 5 2).bind fun y4 => ((sample_Chance_c fuel (TKinds.mk 2 3 1) (TKinds.mk 1 1 0)).bind fun y6 => ((sample_Wholes_c fuel y1).bind fun y9 => ((sample_Weights_c fuel y1 1).bind fun y15 => ((sample_Mean_c fuel y1 1).bind fun y21 => ((sample_Next_c fuel y1 2).bind fun y24 => ((sample_Shortest_c fuel y1 1 (TRatio.mk 9 10)).bind fun y27 => (if ((((((((y4.2 != 0) || (y6.2 != 0)) || (y9.2 != 0)) || (y15.2 != 0)) || (y21.2 != 0)) || (y24.2 != 0)) || (y27.2 != 0)) || (y4.1 != 10)) = true then some false else ((calxref03_SameKinds_c fuel y9.1 [(TKinds.mk 1 1 1), (TKinds.mk 1 2 0), (TKinds.mk 2 1 0)]).bind fun y39 => ((if y39 = true then ((calxref03_SameInts_c fuel y15.1 [0, 3, 2, 0]).bind fun y76 => some (y76)) else (some (false))).bind fun b42 => ((sample_Upper_c fuel 5 2 0 (TRatio.mk 3 10)).bind fun y44 => ((calxlaw03_half_c fuel).bind fun y46 => ((sample_Lower_c fuel 5 2 1 y46).bind fun y48 => ((sample_Smallest_c fuel 5 0 3 (TRatio.mk 1 1) (TRatio.mk 1 10)).bind fun y50 => ((sample_Together_c fuel [y1, y1] 1 (TSpan.mk 4 9)).bind fun y54 => ((calxref03_SameSpans_c fuel y54.1 [(TSpan.mk 2 2), (TSpan.mk 2 2)]).bind fun y61 => some (((((((((b42 && y61) && (((((y6.1.fNum == 2) && (y6.1.fDen == 5)) && ((y21.1.fNum == 7) && (y21.1.fDen == 5))) && ((y24.1.fNum == 1) && (y24.1.fDen == 5))) && ((y27.1.fLo == 1) && (y27.1.fHi == 2)))) && (y44.2 == 0)) && (y44.1 == 2)) && (y48.2 == 0)) && (y48.1 == 2)) && (y50.2 == 0)) && ((y50.1.fSample == 2) && (y50.1.fAccept == 0))) && (y54.2 == 0)))))))))))))))))))
theorem calxlaw03_head_le (fuel : Nat) : LeO (calxlaw03_head_c fuel) (calxlaw03_head) := by
  unfold calxlaw03_head_c calxlaw03_head
  repeat' first
    | with_reducible apply LeO.bind
    | with_reducible apply calxlaw03_Three_le
    | with_reducible apply calxlaw03_half_le
    | with_reducible apply calxref03_SameInts_le
    | with_reducible apply calxref03_SameKinds_le
    | with_reducible apply calxref03_SameSpans_le
    | with_reducible apply sample_Chance_le
    | with_reducible apply sample_Choose_le
    | with_reducible apply sample_Lower_le
    | with_reducible apply sample_Mean_le
    | with_reducible apply sample_Next_le
    | with_reducible apply sample_Shortest_le
    | with_reducible apply sample_Smallest_le
    | with_reducible apply sample_Together_le
    | with_reducible apply sample_Upper_le
    | with_reducible apply sample_Weights_le
    | with_reducible apply sample_Wholes_le
    | with_reducible apply LeO.guard
    | with_reducible apply LeO.ite
    | with_reducible apply LeO.loop
    | with_reducible apply LeO.fold
    | with_reducible exact LeO.refl _
    | (intro (u : Sum _ _); cases u <;> dsimp only)
    | intro _

end Go.Proofs.Ytepfgdfahinpkaa
