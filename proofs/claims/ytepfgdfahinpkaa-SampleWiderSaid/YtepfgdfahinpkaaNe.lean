/- Plain laws of sample: how many subsets have at most some bad barrows; levels, Upper, Lower; what SampleBounds' plain function says is true. No program in sight. -/
import Derived.Test.YtepfgdfahinpkaaNa
set_option linter.unusedVariables false
namespace Go.Proofs.Ytepfgdfahinpkaa

/-- Of so many barrows, some of them bad, in how many subsets fewer than c are bad. -/
def AM (N B t c : Nat) : Nat := ((List.range c).map fun k => binom B k * binom (N - B) (t - k)).sum
theorem AM_succ (N B t c : Nat) : AM N B t (c + 1) = AM N B t c + binom B c * binom (N - B) (t - c) := by
  unfold AM
  rw [List.range_succ, List.map_append, List.sum_append_nat]
  simp
theorem AM_0 (N B t : Nat) : AM N B t 0 = 0 := rfl
theorem AM_mono {N B t : Nat} {c : Nat} : ∀ d, c ≤ d → AM N B t c ≤ AM N B t d := fun d h => by
  induction d with
  | zero => rw [show c = 0 by omega]; exact Nat.le_refl _
  | succ d ih =>
    by_cases e : c = d + 1
    · rw [e]; exact Nat.le_refl _
    · have := ih (by omega)
      rw [AM_succ]; omega
theorem AM_far {N B t c : Nat} (h : B < c) : ∀ d, c ≤ d → AM N B t d = AM N B t c := fun d hd => by
  induction d with
  | zero => rw [show c = 0 by omega]
  | succ d ih =>
    by_cases e : c = d + 1
    · rw [e]
    · rw [AM_succ, ih (by omega), binom_far B d (by omega)]; omega
theorem AM_full {N B t : Nat} (h : B ≤ N) : AM N B t (t + 1) = binom N t := by
  have := vander (N - B) B t
  rw [show B + (N - B) = N by omega] at this
  exact this
theorem AM_le {N B t c : Nat} (h : B ≤ N) (hc : c ≤ t + 1) : AM N B t c ≤ binom N t := by
  rw [← AM_full h]; exact AM_mono _ hc
theorem binom50 (k : Nat) : binom 50 k ≤ 126410606437752 := by
  by_cases h : k ≤ 50
  · have hc : ((List.range 51).all fun k => decide (binom 50 k ≤ 126410606437752)) = true := by kernel_rfl
    exact of_decide_eq_true (List.all_eq_true.1 hc k (List.mem_range.2 (by omega)))
  · rw [binom_far _ _ (by omega)]; omega
theorem binom50' {N : Nat} (h : N ≤ 50) (k : Nat) : binom N k ≤ 126410606437752 := Nat.le_trans (binom_mono' k 50 h) (binom50 k)
/-- How many rounds count. -/
def cnt (t m : Int) : Nat := (min m t + 1).toNat
theorem atMost_eq {N B t m : Int} (hB : 0 ≤ B ∧ B ≤ N) (hN : N ≤ 50) (ht : 0 ≤ t ∧ t ≤ N) (hm : -9223372036854775808 ≤ m) : sample_atMost N B t m = some (AM N.toNat B.toNat t.toNat (cnt t m) : Int) := by
  have hle : ∀ c, c ≤ t.toNat + 1 → AM N.toNat B.toNat t.toNat c ≤ 126410606437752 := fun c hc => Nat.le_trans (AM_le (by omega) hc) (binom50' (by omega) _)
  have hw : w64 (min (min m B) t + 1) = min (min m B) t + 1 := w64_id (by omega) (by omega)
  have hfin : AM N.toNat B.toNat t.toNat (cnt t m) = AM N.toNat B.toNat t.toNat (min (min m B) t + 1).toNat := by
    unfold cnt
    by_cases hb : B < min m t
    · exact AM_far (by omega) _ (by omega)
    · congr 1; omega
  unfold sample_atMost
  have := loop_run (body := sample_atMost_l1 N B t m) (fun k => ((AM N.toNat B.toNat t.toNat k : Int), (k : Int))) (min (min m B) t + 1).toNat (t := ((AM N.toNat B.toNat t.toNat (min (min m B) t + 1).toNat : Int), (((min (min m B) t + 1).toNat : Nat) : Int))) (fun k hk => by
    have h1 := hle k (by omega)
    have h2 := hle (k + 1) (by omega)
    have h3 := AM_succ N.toNat B.toNat t.toNat k
    have e1 : (N - B).toNat = N.toNat - B.toNat := by omega
    have e2 : (t - (k : Int)).toNat = t.toNat - k := by omega
    unfold sample_atMost_l1; dsimp only
    rw [hw, ite_t (by omega), choose_eq (by omega) (by omega) (by omega), bnd rfl, w64_id (x := N - B) (by omega) (by omega), w64_id (x := t - (k : Int)) (by omega) (by omega), choose_eq (by omega) (by omega) (by omega), bnd rfl, e1, e2, Int.toNat_natCast, ← Int.natCast_mul, w64_id (x := ((binom B.toNat k * binom (N.toNat - B.toNat) (t.toNat - k) : Nat) : Int)) (by omega) (by omega), w64_id (by omega) (by omega), w64_succ (by omega), h3]
    rfl) (by
    unfold sample_atMost_l1; dsimp only
    rw [hw, ite_f (by omega)])
  have h0 : loopO (sample_atMost_l1 N B t m) (0, 0) = _ := this
  rw [h0, hfin]; rfl
/-- The error of barrows, some of them bad. -/
theorem lot_eq (N B most : Int) : sample_lot N B most = some (if (1 ≤ N ∧ N ≤ most) ∧ 0 ≤ B ∧ B ≤ N then 0 else 1) := by
  unfold sample_lot
  rw [within_eq, bnd rfl, within_eq]
  by_cases h1 : 1 ≤ N ∧ N ≤ most
  · by_cases h2 : 0 ≤ B ∧ B ≤ N
    · simp [h1, h2]
    · rw [if_neg (show ¬ ((1 ≤ N ∧ N ≤ most) ∧ 0 ≤ B ∧ B ≤ N) from fun x => h2 x.2), decide_eq_true h1, decide_eq_false h2]; rfl
  · rw [if_neg (show ¬ ((1 ≤ N ∧ N ≤ most) ∧ 0 ≤ B ∧ B ≤ N) from fun x => h1 x.1), decide_eq_false h1]; rfl
theorem AtMost_eq (N B t m : Int) : sample_AtMost N B t m = some (if ((1 ≤ N ∧ N ≤ 50) ∧ 0 ≤ B ∧ B ≤ N) ∧ (0 ≤ t ∧ t ≤ N) ∧ 0 ≤ m then ((AM N.toNat B.toNat t.toNat (cnt t m) : Int), 0) else (0, 1)) := by
  unfold sample_AtMost
  rw [lot_eq, bnd rfl]
  by_cases h1 : (1 ≤ N ∧ N ≤ 50) ∧ 0 ≤ B ∧ B ≤ N
  · rw [if_pos h1, if_neg (by simp), within_eq, bnd rfl]
    by_cases h2 : (0 ≤ t ∧ t ≤ N) ∧ 0 ≤ m
    · rw [if_neg (by simp; omega), if_pos ⟨h1, h2⟩, atMost_eq h1.2 h1.1.2 h2.1 (by omega)]
      rfl
    · rw [if_pos (by simp; omega), if_neg (fun x => h2 x.2)]
  · rw [if_neg h1, if_pos (by simp), if_neg (fun x => h1 x.1)]
theorem Choose_eq (n k : Int) : sample_Choose n k = some (if (0 ≤ n ∧ n ≤ 50) ∧ 0 ≤ k then ((binom n.toNat k.toNat : Int), 0) else (0, 1)) := by
  unfold sample_Choose
  rw [within_eq, bnd rfl]
  by_cases h : (0 ≤ n ∧ n ≤ 50) ∧ 0 ≤ k
  · rw [if_neg (by simp; omega), if_pos h, choose_eq h.1.1 h.1.2 h.2]; rfl
  · rw [if_pos (by simp; omega), if_neg h]
/-! ### Levels -/
def LvS (r : TRatio) : Prop := (1 ≤ r.fDen ∧ r.fDen ≤ 10000) ∧ (0 ≤ r.fNum ∧ r.fNum ≤ r.fDen) ∧ RatS r.fNum.toNat r.fDen.toNat = r
instance (r : TRatio) : Decidable (LvS r) := by unfold LvS; infer_instance
theorem isLevel_eq (r : TRatio) : sample_isLevel r = some (decide (LvS r)) := by
  unfold sample_isLevel
  rw [within_eq, bnd rfl]
  by_cases h1 : 1 ≤ r.fDen ∧ r.fDen ≤ 10000
  · rw [if_pos (by simpa using h1), within_eq, bnd rfl, bnd rfl]
    by_cases h2 : 0 ≤ r.fNum ∧ r.fNum ≤ r.fDen
    · have e1 : sample_ratio r.fNum r.fDen = some (RatS r.fNum.toNat r.fDen.toNat) := by
        have := ratio_eq (a := r.fNum.toNat) (b := r.fDen.toNat) (by omega) (by omega) (by omega)
        rw [Int.toNat_of_nonneg h2.1, Int.toNat_of_nonneg (show 0 ≤ r.fDen by omega)] at this
        exact this
      rw [if_pos (by simpa using h2), e1, bnd rfl, bnd rfl]
      congr 1
      rw [Bool.eq_iff_iff, decide_eq_true_eq, Bool.and_eq_true, beq_iff_eq, beq_iff_eq]
      constructor
      · rintro ⟨a, b⟩
        refine ⟨h1, h2, ?_⟩
        cases r
        cases hR : RatS _ _
        rw [hR] at a b
        dsimp only at a b
        rw [a, b]
      · rintro ⟨_, _, h⟩
        rw [h]; exact ⟨rfl, rfl⟩
    · rw [if_neg (by simpa using h2), bnd rfl, decide_eq_false (fun x : LvS r => h2 x.2.1)]
  · rw [if_neg (by simpa using h1), bnd rfl, if_neg (by simp), bnd rfl, decide_eq_false (fun x : LvS r => h1 x.1)]
/-- The error of what was taken. -/
def TkS (N t m : Int) (r : TRatio) : Prop := (1 ≤ N ∧ N ≤ 50) ∧ (0 ≤ t ∧ t ≤ N) ∧ (0 ≤ m ∧ m ≤ t) ∧ LvS r
instance (N t m : Int) (r : TRatio) : Decidable (TkS N t m r) := by unfold TkS; infer_instance
theorem taken_eq (N t m : Int) (r : TRatio) : sample_taken N t m r = some (if TkS N t m r then 0 else 1) := by
  unfold sample_taken
  rw [within_eq, within_eq, within_eq, isLevel_eq, bnd rfl]
  by_cases h1 : 1 ≤ N ∧ N ≤ 50
  · by_cases h2 : 0 ≤ t ∧ t ≤ N
    · by_cases h3 : 0 ≤ m ∧ m ≤ t
      · by_cases h4 : LvS r
        · rw [if_pos (show TkS N t m r from ⟨h1, h2, h3, h4⟩)]
          simp only [decide_eq_true h1, decide_eq_true h2, decide_eq_true h3, decide_eq_true h4]; rfl
        · rw [if_neg (fun x : TkS N t m r => h4 x.2.2.2)]
          simp only [decide_eq_true h1, decide_eq_true h2, decide_eq_true h3, decide_eq_false h4]; rfl
      · rw [if_neg (fun x : TkS N t m r => h3 x.2.2.1)]
        simp only [decide_eq_true h1, decide_eq_true h2, decide_eq_false h3]; rfl
    · rw [if_neg (fun x : TkS N t m r => h2 x.2.1)]
      simp only [decide_eq_true h1, decide_eq_false h2]; rfl
  · rw [if_neg (fun x : TkS N t m r => h1 x.1)]
    simp only [decide_eq_false h1]; rfl
/-- So many ways are at least a level of all. -/
def Reach (r : TRatio) (all n : Int) : Prop := r.fNum * all ≤ n * r.fDen
instance (r : TRatio) (all n : Int) : Decidable (Reach r all n) := by unfold Reach; infer_instance
theorem lv_mul {r : TRatio} (h : LvS r) {x : Int} (hx : 0 ≤ x ∧ x ≤ 126410606437752) : w64 (r.fNum * x) = r.fNum * x ∧ w64 (x * r.fDen) = x * r.fDen ∧ w64 (x * r.fNum) = x * r.fNum := by
  obtain ⟨h1, h2, _⟩ := h
  have a1 : 0 ≤ r.fNum * x ∧ r.fNum * x ≤ 10000 * 126410606437752 := ⟨Int.mul_nonneg h2.1 hx.1, Int.mul_le_mul (by omega) hx.2 hx.1 (by decide)⟩
  have a2 : 0 ≤ x * r.fDen ∧ x * r.fDen ≤ 126410606437752 * 10000 := ⟨Int.mul_nonneg hx.1 (by omega), Int.mul_le_mul hx.2 (by omega) (by omega) (by decide)⟩
  have a3 : 0 ≤ x * r.fNum ∧ x * r.fNum ≤ 126410606437752 * 10000 := ⟨Int.mul_nonneg hx.1 (by omega), Int.mul_le_mul hx.2 (by omega) (by omega) (by decide)⟩
  exact ⟨w64_id (by omega) (by omega), w64_id (by omega) (by omega), w64_id (by omega) (by omega)⟩
theorem reaches_eq {r : TRatio} (h : LvS r) {x n : Int} (hx : 0 ≤ x ∧ x ≤ 126410606437752) (hn : 0 ≤ n ∧ n ≤ 126410606437752) : sample_reaches_1 n r x = some (decide (Reach r x n)) := by
  unfold sample_reaches_1 Reach
  rw [(lv_mul h hx).1, (lv_mul h hn).2.1]
theorem reach_all {r : TRatio} (h : LvS r) {x : Int} (hx : 0 ≤ x) : Reach r x x := by
  unfold Reach
  rw [Int.mul_comm]
  exact Int.mul_le_mul_of_nonneg_left h.2.1.2 hx
/-- The greatest number below which a test is met; the least one. -/
theorem down_run {body : Int → Option (Int ⊕ Int)} (P : Nat → Prop) [DecidablePred P] (N : Nat) (h : ∀ k : Nat, k ≤ N → body (k : Int) = if P k then some (.inr (k : Int)) else some (.inl ((k : Int) - 1))) : ∀ n : Nat, n ≤ N → P 0 → ∃ k : Nat, k ≤ n ∧ P k ∧ (∀ j, j ≤ n → P j → j ≤ k) ∧ loopO body (n : Int) = some (k : Int)
  | 0, hn, h0 => ⟨0, by omega, h0, fun j hj _ => hj, loopO_stop (by rw [h 0 (by omega), if_pos h0])⟩
  | n + 1, hn, h0 => by
    by_cases hp : P (n + 1)
    · exact ⟨n + 1, by omega, hp, fun j hj _ => hj, loopO_stop (by rw [h (n + 1) hn, if_pos hp])⟩
    · obtain ⟨k, h1, h2, h3, h4⟩ := down_run P N h n (by omega) h0
      refine ⟨k, by omega, h2, fun j hj hpj => ?_, ?_⟩
      · by_cases e : j = n + 1
        · rw [e] at hpj; exact absurd hpj hp
        · exact h3 j (by omega) hpj
      · rw [loopO_next (s' := (n : Int)) (by rw [h (n + 1) hn, if_neg hp]; congr 2; omega), h4]
theorem up_run {body : Int → Option (Int ⊕ Int)} (P : Nat → Prop) [DecidablePred P] (N : Nat) (h : ∀ k : Nat, k ≤ N → body (k : Int) = if P k then some (.inr (k : Int)) else some (.inl ((k : Int) + 1))) (hN : P N) : ∀ d n : Nat, n + d = N → ∃ k : Nat, n ≤ k ∧ k ≤ N ∧ P k ∧ (∀ j, n ≤ j → j ≤ N → P j → k ≤ j) ∧ loopO body (n : Int) = some (k : Int)
  | 0, n, hd => ⟨n, by omega, by omega, by rw [show n = N by omega]; exact hN, fun j hj _ _ => hj, loopO_stop (by rw [h n (by omega), if_pos (by rw [show n = N by omega]; exact hN)])⟩
  | d + 1, n, hd => by
    by_cases hp : P n
    · exact ⟨n, by omega, by omega, hp, fun j hj _ _ => hj, loopO_stop (by rw [h n (by omega), if_pos hp])⟩
    · obtain ⟨k, h0, h1, h2, h3, h4⟩ := up_run P N h hN d (n + 1) (by omega)
      refine ⟨k, by omega, h1, h2, fun j hj hjN hpj => ?_, ?_⟩
      · by_cases e : j = n
        · rw [e] at hpj; exact absurd hpj hp
        · exact h3 j (by omega) hjN hpj
      · rw [loopO_next (s' := ((n + 1 : Nat) : Int)) (by rw [h n (by omega), if_neg hp]; rfl), h4]
def upP (N t m : Int) (r : TRatio) (B : Nat) : Prop := Reach r (binom N.toNat t.toNat : Int) (AM N.toNat B t.toNat (cnt t m) : Int)
instance (N t m : Int) (r : TRatio) : DecidablePred (upP N t m r) := fun B => by unfold upP; infer_instance
def loP (N t m : Int) (r : TRatio) (B : Nat) : Prop := Reach r (binom N.toNat t.toNat : Int) ((binom N.toNat t.toNat : Int) - (AM N.toNat B t.toNat (cnt t (m - 1)) : Int))
instance (N t m : Int) (r : TRatio) : DecidablePred (loP N t m r) := fun B => by unfold loP; infer_instance
theorem AM_le' {N t m : Int} (hN : 1 ≤ N ∧ N ≤ 50) (ht : 0 ≤ t ∧ t ≤ N) {B : Nat} (hB : (B : Int) ≤ N) : AM N.toNat B t.toNat (cnt t m) ≤ binom N.toNat t.toNat := AM_le (by omega) (by unfold cnt; omega)
theorem Upper_eq (N t m : Int) (r : TRatio) (h : TkS N t m r) : ∃ k : Nat, (k : Int) ≤ N ∧ upP N t m r k ∧ (∀ j : Nat, (j : Int) ≤ N → upP N t m r j → j ≤ k) ∧ sample_Upper N t m r = some ((k : Int), 0) := by
  have hT := h
  obtain ⟨hN, ht, hm, hr⟩ := h
  have hC := binom50' (N := N.toNat) (by omega) t.toNat
  have h0 : upP N t m r 0 := by
    unfold upP
    have e : AM N.toNat 0 t.toNat (cnt t m) = binom N.toNat t.toNat := by
      rw [← AM_full (N := N.toNat) (B := 0) (t := t.toNat) (by omega), AM_far (c := 1) (by omega) (cnt t m) (by unfold cnt; omega), AM_far (c := 1) (by omega) (t.toNat + 1) (by omega)]
    rw [e]
    exact reach_all hr (by omega)
  obtain ⟨k, h1, h2, h3, h4⟩ := down_run (body := sample_Upper_l1 N t m (r, (binom N.toNat t.toNat : Int))) (upP N t m r) N.toNat (fun k hk => by
    have hA := AM_le' (m := m) hN ht (B := k) (by omega)
    unfold sample_Upper_l1
    rw [atMost_eq (by omega) hN.2 ht (by omega), bnd rfl, Int.toNat_natCast, reaches_eq hr (by omega) (by omega), bnd rfl, w64_id (by omega) (by omega)]
    by_cases hp : upP N t m r k
    · rw [if_pos hp, decide_eq_true (show Reach r _ _ from hp)]; rfl
    · rw [if_neg hp, decide_eq_false (show ¬ Reach r _ _ from hp)]; rfl) N.toNat (Nat.le_refl _) h0
  refine ⟨k, by omega, h2, fun j hj hp => h3 j (by omega) hp, ?_⟩
  unfold sample_Upper
  rw [taken_eq, if_pos hT, bnd rfl, if_neg (by simp), choose_eq (by omega) (by omega) (by omega), bnd rfl]
  unfold sample_reaches
  rw [bnd rfl]
  rw [Int.toNat_of_nonneg (show 0 ≤ N by omega)] at h4
  rw [h4]; rfl
theorem Lower_eq (N t m : Int) (r : TRatio) (h : TkS N t m r) : ∃ k : Nat, (k : Int) ≤ N ∧ loP N t m r k ∧ (∀ j : Nat, (j : Int) ≤ N → loP N t m r j → k ≤ j) ∧ sample_Lower N t m r = some ((k : Int), 0) := by
  have hT := h
  obtain ⟨hN, ht, hm, hr⟩ := h
  have hC := binom50' (N := N.toNat) (by omega) t.toNat
  have h0 : loP N t m r N.toNat := by
    unfold loP
    have e : AM N.toNat N.toNat t.toNat (cnt t (m - 1)) = 0 := by
      have : ∀ c, c ≤ t.toNat → AM N.toNat N.toNat t.toNat c = 0 := by
        intro c hc
        induction c with
        | zero => rfl
        | succ c ih => rw [AM_succ, ih (by omega), Nat.sub_self, binom_far 0 _ (by omega)]; omega
      exact this _ (by unfold cnt; omega)
    rw [e]
    have := reach_all hr (x := (binom N.toNat t.toNat : Int)) (by omega)
    simpa using this
  obtain ⟨k, hk0, h1, h2, h3, h4⟩ := up_run (body := sample_Lower_l1 N t m (binom N.toNat t.toNat : Int) (r, (binom N.toNat t.toNat : Int))) (loP N t m r) N.toNat (fun k hk => by
    have hA := AM_le' (m := m - 1) hN ht (B := k) (by omega)
    unfold sample_Lower_l1
    rw [w64_id (x := m - 1) (by omega) (by omega), atMost_eq (by omega) hN.2 ht (by omega), bnd rfl, Int.toNat_natCast, w64_id (x := (binom N.toNat t.toNat : Int) - _) (by omega) (by omega), reaches_eq hr (by omega) (by omega), bnd rfl, w64_id (by omega) (by omega)]
    by_cases hp : loP N t m r k
    · rw [if_pos hp, decide_eq_true (show Reach r _ _ from hp)]; rfl
    · rw [if_neg hp, decide_eq_false (show ¬ Reach r _ _ from hp)]; rfl) h0 N.toNat 0 (by omega)
  refine ⟨k, by omega, h2, fun j hj hp => h3 j (by omega) (by omega) hp, ?_⟩
  unfold sample_Lower
  rw [taken_eq, if_pos hT, bnd rfl, if_neg (by simp), choose_eq (by omega) (by omega) (by omega), bnd rfl]
  unfold sample_reaches
  rw [bnd rfl]
  have h5 : loopO (sample_Lower_l1 N t m (binom N.toNat t.toNat : Int) (r, (binom N.toNat t.toNat : Int))) 0 = _ := h4
  rw [h5]; rfl
theorem Upper_err {N t m : Int} {r : TRatio} (h : ¬ TkS N t m r) : sample_Upper N t m r = some (0, 1) := by
  unfold sample_Upper
  rw [taken_eq, if_neg h, bnd rfl, if_pos (by simp)]
theorem Lower_err {N t m : Int} {r : TRatio} (h : ¬ TkS N t m r) : sample_Lower N t m r = some (0, 1) := by
  unfold sample_Lower
  rw [taken_eq, if_neg h, bnd rfl, if_pos (by simp)]
/-- What reaches the greater level reaches the less. -/
theorem reach_less {r q : TRatio} (hr : LvS r) (hq : LvS q) (h : r.fNum * q.fDen ≤ q.fNum * r.fDen) {all n : Int} (ha : 0 ≤ all) (h2 : Reach q all n) : Reach r all n := by
  unfold Reach at *
  have a1 : r.fNum * q.fDen * all ≤ q.fNum * r.fDen * all := Int.mul_le_mul_of_nonneg_right h ha
  have a2 : q.fNum * all * r.fDen ≤ n * q.fDen * r.fDen := Int.mul_le_mul_of_nonneg_right h2 (by have := hr.1; omega)
  have e1 : r.fNum * q.fDen * all = r.fNum * all * q.fDen := by rw [Int.mul_assoc, Int.mul_comm q.fDen, ← Int.mul_assoc]
  have e2 : q.fNum * r.fDen * all = q.fNum * all * r.fDen := by rw [Int.mul_assoc, Int.mul_comm r.fDen, ← Int.mul_assoc]
  have e3 : n * q.fDen * r.fDen = n * r.fDen * q.fDen := by rw [Int.mul_assoc, Int.mul_comm q.fDen, ← Int.mul_assoc]
  rw [e1, e2] at a1
  rw [e3] at a2
  exact Int.le_of_mul_le_mul_right (Int.le_trans a1 a2) (by have := hq.1; omega)
theorem SampleBounds_true (N B t m : Int) (r q : TRatio) (_ : Rg_i64 N) (_ : Rg_i64 B) (_ : Rg_i64 t) (_ : Rg_i64 m) (_ : TRatio_rg r) (_ : TRatio_rg q) : calxlaw03_SampleBounds N B t m r q = some true := by
  unfold calxlaw03_SampleBounds
  rw [head_true, bnd rfl]
  by_cases h1 : TkS N t m r
  · obtain ⟨u, u1, u2, u3, u4⟩ := Upper_eq N t m r h1
    obtain ⟨w, w1, w2, w3, w4⟩ := Lower_eq N t m r h1
    rw [u4, bnd rfl, w4, bnd rfl]
    by_cases h2 : TkS N t m q
    · obtain ⟨u', u1', u2', u3', u4'⟩ := Upper_eq N t m q h2
      obtain ⟨w', w1', w2', w3', w4'⟩ := Lower_eq N t m q h2
      rw [u4', bnd rfl, w4', bnd rfl]
      obtain ⟨hN, ht, hm, hr⟩ := h1
      obtain ⟨_, _, _, hq⟩ := h2
      have hC := binom50' (N := N.toNat) (by omega) t.toNat
      dsimp only
      rw [if_neg (by simp), if_neg (by simp)]
      have x1 : w64 (r.fNum * q.fDen) = r.fNum * q.fDen := by
        have a1 : 0 ≤ r.fNum * q.fDen ∧ r.fNum * q.fDen ≤ 10000 * 10000 := ⟨Int.mul_nonneg hr.2.1.1 (by have := hq.1; omega), Int.mul_le_mul (by have := hr.2.1; have := hr.1; omega) (by have := hq.1; omega) (by have := hq.1; omega) (by decide)⟩
        exact w64_id (by omega) (by omega)
      have x2 : w64 (q.fNum * r.fDen) = q.fNum * r.fDen := by
        have a1 : 0 ≤ q.fNum * r.fDen ∧ q.fNum * r.fDen ≤ 10000 * 10000 := ⟨Int.mul_nonneg hq.2.1.1 (by have := hr.1; omega), Int.mul_le_mul (by have := hq.2.1; have := hq.1; omega) (by have := hr.1; omega) (by have := hr.1; omega) (by decide)⟩
        exact w64_id (by omega) (by omega)
      rw [x1, x2]
      have hno : ((decide (r.fNum * q.fDen ≤ q.fNum * r.fDen)) && ((decide ((u : Int) < (u' : Int))) || (decide ((w' : Int) < (w : Int))))) = false := by
        by_cases hle : r.fNum * q.fDen ≤ q.fNum * r.fDen
        · have y1 := u3 u' u1' (reach_less hr hq hle (by omega) u2')
          have y2 := w3 w' w1' (reach_less hr hq hle (by omega) w2')
          rw [decide_eq_false (show ¬ (u : Int) < (u' : Int) by omega), decide_eq_false (show ¬ (w' : Int) < (w : Int) by omega)]
          simp
        · rw [decide_eq_false hle]; rfl
      rw [hno, if_neg (by simp), AtMost_eq, bnd rfl, Choose_eq, bnd rfl, if_pos (show (0 ≤ N ∧ N ≤ 50) ∧ 0 ≤ t by omega)]
      by_cases hB : 0 ≤ B ∧ B ≤ N
      · rw [if_pos (show ((1 ≤ N ∧ N ≤ 50) ∧ 0 ≤ B ∧ B ≤ N) ∧ (0 ≤ t ∧ t ≤ N) ∧ 0 ≤ m from ⟨⟨hN, hB⟩, ht, hm.1⟩)]
        have hA := AM_le' (m := m) hN ht (B := B.toNat) (by omega)
        have hA' := AM_le' (m := m - 1) hN ht (B := B.toNat) (by omega)
        dsimp only
        rw [if_neg (by simp)]
        have z1 : (!(decide (w64 ((binom N.toNat t.toNat : Int) * r.fNum) ≤ w64 ((AM N.toNat B.toNat t.toNat (cnt t m) : Int) * r.fDen))) || (decide (B ≤ (u : Int)))) = true := by
          rw [(lv_mul hr (x := (binom N.toNat t.toNat : Int)) (by omega)).2.2, (lv_mul hr (x := (AM N.toNat B.toNat t.toNat (cnt t m) : Int)) (by omega)).2.1]
          by_cases hR : (binom N.toNat t.toNat : Int) * r.fNum ≤ (AM N.toNat B.toNat t.toNat (cnt t m) : Int) * r.fDen
          · have := u3 B.toNat (by omega) (by unfold upP Reach; rw [Int.mul_comm r.fNum]; exact hR)
            rw [decide_eq_true (show B ≤ (u : Int) by omega)]; simp
          · rw [decide_eq_false hR]; rfl
        have z2 : ∀ y : Int, y = (AM N.toNat B.toNat t.toNat (cnt t (m - 1)) : Int) → (!(decide (w64 ((binom N.toNat t.toNat : Int) * r.fNum) ≤ w64 (w64 ((binom N.toNat t.toNat : Int) - y) * r.fDen))) || (decide ((w : Int) ≤ B))) = true := by
          intro y hy
          rw [hy, w64_id (x := (binom N.toNat t.toNat : Int) - _) (by omega) (by omega), (lv_mul hr (x := (binom N.toNat t.toNat : Int)) (by omega)).2.2, (lv_mul hr (x := (binom N.toNat t.toNat : Int) - (AM N.toNat B.toNat t.toNat (cnt t (m - 1)) : Int)) (by omega)).2.1]
          by_cases hR : (binom N.toNat t.toNat : Int) * r.fNum ≤ ((binom N.toNat t.toNat : Int) - (AM N.toNat B.toNat t.toNat (cnt t (m - 1)) : Int)) * r.fDen
          · have := w3 B.toNat (by omega) (by unfold loP Reach; rw [Int.mul_comm r.fNum]; exact hR)
            rw [decide_eq_true (show (w : Int) ≤ B by omega)]; simp
          · rw [decide_eq_false hR]; rfl
        by_cases hm0 : 0 < m
        · rw [ite_t hm0, w64_id (x := m - 1) (by omega) (by omega), AtMost_eq, if_pos ⟨⟨hN, hB⟩, ht, by omega⟩, bnd rfl]
          dsimp only
          rw [if_neg (by simp), z1, z2 _ rfl]; rfl
        · have e0 : AM N.toNat B.toNat t.toNat (cnt t (m - 1)) = 0 := by
            rw [show cnt t (m - 1) = 0 by unfold cnt; omega]; rfl
          rw [ite_f hm0, z1, z2 0 (by rw [e0]; rfl)]; rfl
      · rw [if_neg (show ¬ (((1 ≤ N ∧ N ≤ 50) ∧ 0 ≤ B ∧ B ≤ N) ∧ (0 ≤ t ∧ t ≤ N) ∧ 0 ≤ m) from fun x => hB x.1.2)]
        rfl
    · rw [Upper_err h2, bnd rfl, Lower_err h2, bnd rfl]
      rfl
  · rw [Upper_err h1, bnd rfl, Lower_err h1, bnd rfl]
    by_cases h2 : TkS N t m q
    · obtain ⟨u', u1', u2', u3', u4'⟩ := Upper_eq N t m q h2
      obtain ⟨w', w1', w2', w3', w4'⟩ := Lower_eq N t m q h2
      rw [u4', bnd rfl, w4', bnd rfl]
      rfl
    · rw [Upper_err h2, bnd rfl, Lower_err h2, bnd rfl]
      rfl
end Go.Proofs.Ytepfgdfahinpkaa
