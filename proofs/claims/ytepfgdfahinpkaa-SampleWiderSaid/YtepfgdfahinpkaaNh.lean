/- Plain laws of sample: the reference's choose and what hangs on it; what SampleWays', SampleLevels' and SampleSmallest's plain functions say is true. No program in sight. -/
import Derived.Test.YtepfgdfahinpkaaNg
set_option linter.unusedVariables false
namespace Go.Proofs.Ytepfgdfahinpkaa

theorem tab_pas : ∀ n, tabRow n = (pasRow n).map fun x : Nat => (x : Int)
  | 0 => rfl
  | n + 1 => by
    simp only [tabRow, pasRow, tab_pas n, List.map_zipWith]
    have e1 : (0 : Int) :: (pasRow n).map (fun x : Nat => (x : Int)) = (0 :: pasRow n).map fun x : Nat => (x : Int) := rfl
    have e2 : (pasRow n).map (fun x : Nat => (x : Int)) ++ [0] = (pasRow n ++ [0]).map fun x : Nat => (x : Int) := by simp
    rw [e1, e2, List.zipWith_map]
    congr 1
theorem tab_binom (n k : Nat) : (tabRow n).getD k 0 = (binom n k : Int) := by
  rw [tab_pas]
  unfold binom
  rw [List.getD_eq_getElem?_getD, List.getD_eq_getElem?_getD, List.getElem?_map]
  cases (pasRow n)[k]? <;> rfl
theorem rchoose_eq {n k : Int} (h0 : 0 ≤ n) (h1 : n ≤ 50) (h2 : 0 ≤ k) : calxref03_choose n k = some (binom n.toNat k.toNat : Int) := by
  unfold calxref03_choose
  by_cases h : n < k
  · rw [if_pos h, binom_far _ _ (by omega)]; rfl
  · rw [if_neg h, if_pos ⟨h2, h1⟩, tab_binom]
theorem rChoose_eq (n k : Int) : calxref03_Choose n k = some (if (0 ≤ n ∧ n ≤ 50) ∧ 0 ≤ k then ((binom n.toNat k.toNat : Int), 0) else (0, 1)) := by
  unfold calxref03_Choose
  rw [in_eq, bnd rfl]
  by_cases h : (0 ≤ n ∧ n ≤ 50) ∧ 0 ≤ k
  · rw [if_neg (by simp; omega), if_pos h, rchoose_eq h.1.1 h.1.2 h.2]; rfl
  · rw [if_pos (by simp; omega), if_neg h]
theorem rways_eq {w s : TKinds} (a : 0 ≤ w.x0 ∧ 0 ≤ w.x1 ∧ 0 ≤ w.x2) (hs : w.x0 + w.x1 + w.x2 ≤ 50) (b : 0 ≤ s.x0 ∧ 0 ≤ s.x1 ∧ 0 ≤ s.x2) : calxref03_ways w s = some (wtN s w : Int) := by
  have hle := wtN_le (s := s) (k := w) (by omega)
  have e0 := rchoose_eq (n := w.x0) (k := s.x0) a.1 (by omega) b.1
  have e1 := rchoose_eq (n := w.x1) (k := s.x1) a.2.1 (by omega) b.2.1
  have e2 := rchoose_eq (n := w.x2) (k := s.x2) a.2.2 (by omega) b.2.2
  unfold wtN at hle ⊢
  have b0 := binom_le w.x0.toNat s.x0.toNat
  have b01 := Nat.mul_le_mul (binom_le w.x0.toNat s.x0.toNat) (binom_le w.x1.toNat s.x1.toNat)
  have p0 : 2 ^ w.x0.toNat ≤ 2 ^ 50 := Nat.pow_le_pow_right (by decide) (by omega)
  have p1 : 2 ^ w.x0.toNat * 2 ^ w.x1.toNat ≤ 2 ^ 50 := by rw [← Nat.pow_add]; exact Nat.pow_le_pow_right (by decide) (by omega)
  generalize binom w.x0.toNat s.x0.toNat = A at *
  generalize binom w.x1.toNat s.x1.toNat = B at *
  generalize binom w.x2.toNat s.x2.toNat = C at *
  have q0 : A ≤ 1125899906842624 := Nat.le_trans b0 p0
  have q1 : A * B ≤ 1125899906842624 := Nat.le_trans b01 p1
  have s1 : calxref03_ways_l1 w s (1, 0) = some (.inl ((A : Int), 1)) := by
    unfold calxref03_ways_l1; dsimp only
    rw [if_pos (by simp), guardO_pos (by decide), guardO_pos (by decide)]
    show (calxref03_choose w.x0 s.x0).bind _ = _
    rw [e0]
    show some (Sum.inl (w64 (1 * (A : Int)), w64 (0 + 1))) = _
    rw [Int.one_mul, w64_id (by omega) (by omega)]
    rfl
  have s2 : calxref03_ways_l1 w s ((A : Int), 1) = some (.inl (((A * B : Nat) : Int), 2)) := by
    unfold calxref03_ways_l1; dsimp only
    rw [if_pos (by simp), guardO_pos (by decide), guardO_pos (by decide)]
    show (calxref03_choose w.x1 s.x1).bind _ = _
    rw [e1]
    show some (Sum.inl (w64 ((A : Int) * (B : Int)), w64 (1 + 1))) = _
    rw [← Int.natCast_mul, w64_id (by omega) (by omega)]
    rfl
  have s3 : calxref03_ways_l1 w s (((A * B : Nat) : Int), 2) = some (.inl (((A * B * C : Nat) : Int), 3)) := by
    unfold calxref03_ways_l1; dsimp only
    rw [if_pos (by simp), guardO_pos (by decide), guardO_pos (by decide)]
    show (calxref03_choose w.x2 s.x2).bind _ = _
    rw [e2]
    show some (Sum.inl (w64 (((A * B : Nat) : Int) * (C : Int)), w64 (2 + 1))) = _
    rw [← Int.natCast_mul, w64_id (by omega) (by omega)]
    rfl
  have s4 : calxref03_ways_l1 w s (((A * B * C : Nat) : Int), 3) = some (.inr (((A * B * C : Nat) : Int), 3)) := by
    unfold calxref03_ways_l1; dsimp only
    rw [if_neg (by simp)]
  unfold calxref03_ways
  rw [loopO_next s1, loopO_next s2, loopO_next s3, loopO_stop s4]
  rfl
/-! ### Ways, Chance -/
def NN (k : TKinds) : Prop := 0 ≤ k.x0 ∧ 0 ≤ k.x1 ∧ 0 ≤ k.x2
instance (k : TKinds) : Decidable (NN k) := by unfold NN; infer_instance
def WhS (w s : TKinds) : Prop := NN w ∧ (1 ≤ cap51 w ∧ cap51 w ≤ 50) ∧ NN s
instance (w s : TKinds) : Decidable (WhS w s) := by unfold WhS; infer_instance
theorem size_eq {k : TKinds} (h : NN k) : sample_size k = some (cap51 k) := size_nn h
theorem all_eq {k : TKinds} (h : NN k) : calxref03_all k = some (cap51 k) := all_nn h
theorem seenOf_eq (w s : TKinds) : sample_seenOf w s = some (if WhS w s then 0 else 1) := by
  unfold sample_seenOf
  rw [isSample_eq, isSample_eq, bnd rfl]
  by_cases h1 : NN w
  · rw [if_neg (by simp; exact h1), size_eq h1, bnd rfl, within_eq, bnd rfl, bnd rfl]
    by_cases h2 : 1 ≤ cap51 w ∧ cap51 w ≤ 50
    · by_cases h3 : NN s
      · rw [if_pos (show WhS w s from ⟨h1, h2, h3⟩), decide_eq_true h2, decide_eq_true (show 0 ≤ s.x0 ∧ 0 ≤ s.x1 ∧ 0 ≤ s.x2 from h3)]; rfl
      · rw [if_neg (show ¬ WhS w s from fun x => h3 x.2.2), decide_eq_true h2, decide_eq_false (show ¬ (0 ≤ s.x0 ∧ 0 ≤ s.x1 ∧ 0 ≤ s.x2) from h3)]; rfl
    · rw [if_neg (show ¬ WhS w s from fun x => h2 x.2.1), decide_eq_false h2]; rfl
  · rw [if_neg (show ¬ WhS w s from fun x => h1 x.1), decide_eq_false (show ¬ (0 ≤ w.x0 ∧ 0 ≤ w.x1 ∧ 0 ≤ w.x2) from h1)]; rfl
theorem whole_eq (w : TKinds) : calxref03_whole w = some (decide (NN w ∧ (1 ≤ cap51 w ∧ cap51 w ≤ 50))) := by
  unfold calxref03_whole
  rw [sorted_eq, bnd rfl]
  by_cases h1 : NN w
  · rw [if_pos (decide_eq_true (show 0 ≤ w.x0 ∧ 0 ≤ w.x1 ∧ 0 ≤ w.x2 from h1)), all_eq h1, bnd rfl, in_eq, bnd rfl, bnd rfl]
    by_cases h2 : 1 ≤ cap51 w ∧ cap51 w ≤ 50
    · rw [decide_eq_true h2, decide_eq_true (show NN w ∧ (1 ≤ cap51 w ∧ cap51 w ≤ 50) from ⟨h1, h2⟩)]
    · rw [decide_eq_false h2, decide_eq_false (show ¬ (NN w ∧ (1 ≤ cap51 w ∧ cap51 w ≤ 50)) from fun x => h2 x.2)]
  · rw [if_neg (by rw [decide_eq_false (show ¬ (0 ≤ w.x0 ∧ 0 ≤ w.x1 ∧ 0 ≤ w.x2) from h1)]; simp), bnd rfl, decide_eq_false (show ¬ (NN w ∧ (1 ≤ cap51 w ∧ cap51 w ≤ 50)) from fun x => h1 x.1)]
theorem cap_le {w : TKinds} (h : NN w) (h2 : cap51 w ≤ 50) : cap51 w = w.x0 + w.x1 + w.x2 := by
  unfold NN at h
  unfold cap51 at *
  omega
theorem Ways_eq (w s : TKinds) : sample_Ways w s = some (if WhS w s then ((wtN s w : Int), 0) else (0, 1)) := by
  unfold sample_Ways
  rw [seenOf_eq, bnd rfl]
  by_cases h : WhS w s
  · rw [if_pos h, if_pos h, if_neg (by simp), ways_eq h.1 (by have := cap_le h.1 h.2.1.2; have := h.2.1.2; omega) h.2.2]; rfl
  · rw [if_neg h, if_neg h, if_pos (by simp)]
theorem rWays_eq (w s : TKinds) : calxref03_Ways w s = some (if WhS w s then ((wtN s w : Int), 0) else (0, 1)) := by
  unfold calxref03_Ways
  rw [whole_eq, sorted_eq, bnd rfl]
  by_cases h1 : NN w ∧ (1 ≤ cap51 w ∧ cap51 w ≤ 50)
  · by_cases h2 : NN s
    · rw [if_pos (show WhS w s from ⟨h1.1, h1.2, h2⟩), decide_eq_true h1, decide_eq_true (show 0 ≤ s.x0 ∧ 0 ≤ s.x1 ∧ 0 ≤ s.x2 from h2), rways_eq h1.1 (by have := cap_le h1.1 h1.2.2; omega) h2]; rfl
    · rw [if_neg (show ¬ WhS w s from fun x => h2 x.2.2), decide_eq_true h1, decide_eq_false (show ¬ (0 ≤ s.x0 ∧ 0 ≤ s.x1 ∧ 0 ≤ s.x2) from h2)]; rfl
  · rw [if_neg (show ¬ WhS w s from fun x => h1 ⟨x.1, x.2.1⟩), decide_eq_false h1]; rfl
def ChS (w s : TKinds) : TRatio × Int := if WhS w s then if cap51 w < cap51 s then (⟨0, 0⟩, 3) else (RatS (wtN s w) (binom (cap51 w).toNat (cap51 s).toNat), 0) else (⟨0, 0⟩, 1)
theorem cap_nn {k : TKinds} (h : NN k) : 0 ≤ cap51 k := by
  unfold NN at h
  unfold cap51
  omega
theorem Chance_eq (w s : TKinds) : sample_Chance w s = some (ChS w s) := by
  unfold sample_Chance ChS
  rw [seenOf_eq, bnd rfl]
  by_cases h : WhS w s
  · have hc := cap_le h.1 h.2.1.2
    have h2 := h.2.1
    have h3 := cap_nn h.2.2
    rw [if_pos h, if_pos h, if_neg (by simp), size_eq h.2.2, bnd rfl, size_eq h.1, bnd rfl]
    by_cases hlt : cap51 w < cap51 s
    · rw [if_pos hlt, ite_t hlt]
    · have hC := binom50' (N := (cap51 w).toNat) (by omega) (cap51 s).toNat
      have hp := binom_pos (cap51 w).toNat (cap51 s).toNat (by omega)
      have hw := wtN_le (s := s) (k := w) (by have := h.1; unfold NN at this; omega)
      rw [if_neg hlt, ite_f hlt, ways_eq h.1 (by omega) h.2.2, bnd rfl, bnd rfl, bnd rfl, choose_eq (by omega) (by omega) h3, bnd rfl, ratio_eq (by omega) (by omega) (by omega)]; rfl
  · rw [if_neg h, if_neg h, if_pos (by simp)]
theorem rChance_eq (w s : TKinds) : calxref03_Chance w s = some (ChS w s) := by
  unfold calxref03_Chance ChS
  rw [whole_eq, sorted_eq, bnd rfl]
  by_cases h1 : NN w ∧ (1 ≤ cap51 w ∧ cap51 w ≤ 50)
  · by_cases h2 : NN s
    · have hc := cap_le h1.1 h1.2.2
      have h3 := cap_nn h2
      rw [if_pos (show WhS w s from ⟨h1.1, h1.2, h2⟩), decide_eq_true h1, decide_eq_true (show 0 ≤ s.x0 ∧ 0 ≤ s.x1 ∧ 0 ≤ s.x2 from h2), all_eq h2, all_eq h1.1]
      simp only [Option.bind_some, Bool.not_true, Bool.false_eq_true, if_false]
      by_cases hlt : cap51 w < cap51 s
      · rw [if_pos hlt, ite_t hlt]
      · have hC := binom50' (N := (cap51 w).toNat) (by omega) (cap51 s).toNat
        have hp := binom_pos (cap51 w).toNat (cap51 s).toNat (by omega)
        have hw := wtN_le (s := s) (k := w) (by have := h1.1; unfold NN at this; omega)
        rw [if_neg hlt, ite_f hlt, rways_eq h1.1 (by omega) h2, bnd rfl, rchoose_eq (by omega) (by omega) h3, bnd rfl, ref_ratio_eq (by omega) (by omega) (by omega)]; rfl
    · rw [if_neg (show ¬ WhS w s from fun x => h2 x.2.2), decide_eq_true h1, decide_eq_false (show ¬ (0 ≤ s.x0 ∧ 0 ≤ s.x1 ∧ 0 ≤ s.x2) from h2)]; rfl
  · rw [if_neg (show ¬ WhS w s from fun x => h1 ⟨x.1, x.2.1⟩), decide_eq_false h1]; rfl
theorem SampleWays_true (n k : Int) (w s : TKinds) (_ : Rg_i64 n) (_ : Rg_i64 k) (_ : TKinds_rg w) (_ : TKinds_rg s) : calxlaw03_SampleWays n k w s = some true := by
  unfold calxlaw03_SampleWays
  simp only [head_true, Option.bind_some, Choose_eq, rChoose_eq, Ways_eq, rWays_eq, Chance_eq, rChance_eq]
  simp
/-! ### How many subsets -/
theorem ratMost_eq {N B t m : Int} (hB : 0 ≤ B ∧ B ≤ N) (hN : N ≤ 50) (ht : 0 ≤ t ∧ t ≤ N) : calxref03_atMost N B t m = some (AM N.toNat B.toNat t.toNat (cnt t m) : Int) := by
  have hle : ∀ c, c ≤ t.toNat + 1 → AM N.toNat B.toNat t.toNat c ≤ 126410606437752 := fun c hc => Nat.le_trans (AM_le (by omega) hc) (binom50' (by omega) _)
  unfold calxref03_atMost
  have := loop_run (body := calxref03_atMost_l1 N B t m) (fun k => ((AM N.toNat B.toNat t.toNat k : Int), (k : Int))) (cnt t m) (t := ((AM N.toNat B.toNat t.toNat (cnt t m) : Int), ((cnt t m : Nat) : Int))) (fun k hk => by
    unfold cnt at hk
    have h1 := hle k (by omega)
    have h2 := hle (k + 1) (by omega)
    have h3 := AM_succ N.toNat B.toNat t.toNat k
    have e1 : (N - B).toNat = N.toNat - B.toNat := by omega
    have e2 : (t - (k : Int)).toNat = t.toNat - k := by omega
    unfold calxref03_atMost_l1; dsimp only
    rw [if_pos (by simp; omega), rchoose_eq (by omega) (by omega) (by omega), bnd rfl, w64_id (x := N - B) (by omega) (by omega), w64_id (x := t - (k : Int)) (by omega) (by omega), rchoose_eq (by omega) (by omega) (by omega), bnd rfl, e1, e2, Int.toNat_natCast, ← Int.natCast_mul, w64_id (x := ((binom B.toNat k * binom (N.toNat - B.toNat) (t.toNat - k) : Nat) : Int)) (by omega) (by omega), w64_id (by omega) (by omega), w64_succ (by omega), h3]
    rfl) (by
    unfold calxref03_atMost_l1; dsimp only
    rw [if_neg (by unfold cnt; simp; omega)])
  have h0 : loopO (calxref03_atMost_l1 N B t m) (0, 0) = _ := this
  rw [h0]; rfl
theorem rlot_eq (N B : Int) : calxref03_lot N B = some (decide ((1 ≤ N ∧ N ≤ 50) ∧ 0 ≤ B ∧ B ≤ N)) := by
  unfold calxref03_lot
  rw [in_eq, in_eq, bnd rfl]
  by_cases h1 : 1 ≤ N ∧ N ≤ 50
  · by_cases h2 : 0 ≤ B ∧ B ≤ N
    · rw [decide_eq_true h1, decide_eq_true h2, decide_eq_true (show (1 ≤ N ∧ N ≤ 50) ∧ 0 ≤ B ∧ B ≤ N from ⟨h1, h2⟩)]; rfl
    · rw [decide_eq_true h1, decide_eq_false h2, decide_eq_false (show ¬ ((1 ≤ N ∧ N ≤ 50) ∧ 0 ≤ B ∧ B ≤ N) from fun x => h2 x.2)]; rfl
  · rw [decide_eq_false h1, decide_eq_false (show ¬ ((1 ≤ N ∧ N ≤ 50) ∧ 0 ≤ B ∧ B ≤ N) from fun x => h1 x.1)]; rfl
theorem rAtMost_eq (N B t m : Int) : calxref03_AtMost N B t m = some (if ((1 ≤ N ∧ N ≤ 50) ∧ 0 ≤ B ∧ B ≤ N) ∧ (0 ≤ t ∧ t ≤ N) ∧ 0 ≤ m then ((AM N.toNat B.toNat t.toNat (cnt t m) : Int), 0) else (0, 1)) := by
  unfold calxref03_AtMost
  rw [rlot_eq, in_eq, bnd rfl]
  by_cases h1 : (1 ≤ N ∧ N ≤ 50) ∧ 0 ≤ B ∧ B ≤ N
  · by_cases h2 : 0 ≤ t ∧ t ≤ N
    · rw [decide_eq_true h1, decide_eq_true h2]
      by_cases h3 : 0 ≤ m
      · rw [if_pos (show ((1 ≤ N ∧ N ≤ 50) ∧ 0 ≤ B ∧ B ≤ N) ∧ (0 ≤ t ∧ t ≤ N) ∧ 0 ≤ m from ⟨h1, h2, h3⟩), decide_eq_false (show ¬ m < 0 by omega), ratMost_eq h1.2 h1.1.2 h2]; rfl
      · rw [if_neg (show ¬ (((1 ≤ N ∧ N ≤ 50) ∧ 0 ≤ B ∧ B ≤ N) ∧ (0 ≤ t ∧ t ≤ N) ∧ 0 ≤ m) from fun x => h3 x.2.2), decide_eq_true (show m < 0 by omega)]; rfl
    · rw [if_neg (show ¬ (((1 ≤ N ∧ N ≤ 50) ∧ 0 ≤ B ∧ B ≤ N) ∧ (0 ≤ t ∧ t ≤ N) ∧ 0 ≤ m) from fun x => h2 x.2.1), decide_eq_true h1, decide_eq_false h2]; rfl
  · rw [if_neg (show ¬ (((1 ≤ N ∧ N ≤ 50) ∧ 0 ≤ B ∧ B ≤ N) ∧ (0 ≤ t ∧ t ≤ N) ∧ 0 ≤ m) from fun x => h1 x.1), decide_eq_false h1]; rfl
theorem rlevel_eq (r : TRatio) : calxref03_level r = some (decide (LvS r)) := by
  unfold calxref03_level
  rw [in_eq, bnd rfl]
  by_cases h1 : 1 ≤ r.fDen ∧ r.fDen ≤ 10000
  · rw [if_pos (by simpa using h1), in_eq, bnd rfl, bnd rfl]
    by_cases h2 : 0 ≤ r.fNum ∧ r.fNum ≤ r.fDen
    · have e1 : calxref03_ratio r.fNum r.fDen = some (RatS r.fNum.toNat r.fDen.toNat) := by
        have := ref_ratio_eq (a := r.fNum.toNat) (b := r.fDen.toNat) (by omega) (by omega) (by omega)
        rw [Int.toNat_of_nonneg h2.1, Int.toNat_of_nonneg (show 0 ≤ r.fDen by omega)] at this
        exact this
      rw [if_pos (by simpa using h2), e1, bnd rfl, bnd rfl]
      congr 1
      rw [Bool.eq_iff_iff, decide_eq_true_eq, Bool.and_eq_true, beq_iff_eq, beq_iff_eq]
      constructor
      · rintro ⟨a, b⟩
        refine ⟨h1, h2, ?_⟩
        cases r
        cases hR : RatS _ _
        rw [hR] at a b
        dsimp only at a b
        rw [a, b]
      · rintro ⟨_, _, h⟩
        rw [h]; exact ⟨rfl, rfl⟩
    · rw [if_neg (by simpa using h2), bnd rfl, decide_eq_false (fun x : LvS r => h2 x.2.1)]
  · rw [if_neg (by simpa using h1), bnd rfl, if_neg (by simp), bnd rfl, decide_eq_false (fun x : LvS r => h1 x.1)]
theorem rUpper_err {N t m : Int} {r : TRatio} (h : ¬ TkS N t m r) : calxref03_Upper N t m r = some (0, 1) := by
  unfold calxref03_Upper
  rw [rlot_eq, in_eq, in_eq, rlevel_eq, bnd rfl]
  by_cases h1 : (1 ≤ N ∧ N ≤ 50) ∧ (0 : Int) ≤ 0 ∧ 0 ≤ N
  · by_cases h2 : 0 ≤ t ∧ t ≤ N
    · by_cases h3 : 0 ≤ m ∧ m ≤ t
      · have h4 : ¬ LvS r := fun x => h ⟨h1.1, h2, h3, x⟩
        rw [decide_eq_true h1, decide_eq_true h2, decide_eq_true h3, decide_eq_false h4]; rfl
      · rw [decide_eq_true h1, decide_eq_true h2, decide_eq_false h3]; rfl
    · rw [decide_eq_true h1, decide_eq_false h2]; rfl
  · rw [decide_eq_false h1]; rfl
theorem rLower_err {N t m : Int} {r : TRatio} (h : ¬ TkS N t m r) : calxref03_Lower N t m r = some (0, 1) := by
  unfold calxref03_Lower
  rw [rlot_eq, in_eq, in_eq, rlevel_eq, bnd rfl]
  by_cases h1 : (1 ≤ N ∧ N ≤ 50) ∧ (0 : Int) ≤ 0 ∧ 0 ≤ N
  · by_cases h2 : 0 ≤ t ∧ t ≤ N
    · by_cases h3 : 0 ≤ m ∧ m ≤ t
      · have h4 : ¬ LvS r := fun x => h ⟨h1.1, h2, h3, x⟩
        rw [decide_eq_true h1, decide_eq_true h2, decide_eq_true h3, decide_eq_false h4]; rfl
      · rw [decide_eq_true h1, decide_eq_true h2, decide_eq_false h3]; rfl
    · rw [decide_eq_true h1, decide_eq_false h2]; rfl
  · rw [decide_eq_false h1]; rfl
theorem rUpper_eq {N t m : Int} {r : TRatio} (h : TkS N t m r) {k : Nat} (hk : (k : Int) ≤ N) (hp : upP N t m r k) (hmax : ∀ j : Nat, (j : Int) ≤ N → upP N t m r j → j ≤ k) : calxref03_Upper N t m r = some ((k : Int), 0) := by
  obtain ⟨hN, ht, hm, hr⟩ := h
  have hC := binom50' (N := N.toNat) (by omega) t.toNat
  have hd : calxref03_Upper N t m r = (loopO (calxref03_Upper_l1 N t m r (binom N.toNat t.toNat : Int)) (0, 0, N)).bind fun u18 => match u18 with | (.inl u24) => some (u24.1, u24.2.1) | (.inr u25) => some (0, 0) := by
    unfold calxref03_Upper
    rw [rlot_eq, in_eq, in_eq, rlevel_eq, bnd rfl, decide_eq_true (show (1 ≤ N ∧ N ≤ 50) ∧ (0 : Int) ≤ 0 ∧ 0 ≤ N by omega), decide_eq_true ht, decide_eq_true hm, decide_eq_true hr, rchoose_eq (by omega) (by omega) (by omega)]
    rfl
  have step : ∀ j : Nat, 0 < j → (j : Int) ≤ N → calxref03_Upper_l1 N t m r (binom N.toNat t.toNat : Int) (0, 0, (j : Int)) = if upP N t m r j then some (.inr (.inl ((j : Int), 0, (j : Int)))) else some (.inl (0, 0, (j : Int) - 1)) := by
    intro j hj hjN
    have hA := AM_le' (m := m) hN ht (B := j) hjN
    unfold calxref03_Upper_l1; dsimp only
    rw [ite_t (by omega), ratMost_eq (by omega) hN.2 ht, bnd rfl, Int.toNat_natCast, (lv_mul hr (x := (binom N.toNat t.toNat : Int)) (by omega)).2.2, (lv_mul hr (x := (AM N.toNat j t.toNat (cnt t m) : Int)) (by omega)).2.1, Int.mul_comm (binom N.toNat t.toNat : Int), w64_id (x := (j : Int) - 1) (by omega) (by omega)]
    by_cases hu : upP N t m r j
    · have hu' : r.fNum * (binom N.toNat t.toNat : Int) ≤ (AM N.toNat j t.toNat (cnt t m) : Int) * r.fDen := hu
      rw [if_pos hu, ite_t hu']
    · have hu' : ¬ r.fNum * (binom N.toNat t.toNat : Int) ≤ (AM N.toNat j t.toNat (cnt t m) : Int) * r.fDen := hu
      rw [if_neg hu, ite_f hu']
  have hrun : ∀ d j : Nat, j = k + d → (j : Int) ≤ N → (loopO (calxref03_Upper_l1 N t m r (binom N.toNat t.toNat : Int)) (0, 0, (j : Int))).bind (fun u18 => match u18 with | (.inl u24) => some (u24.1, u24.2.1) | (.inr u25) => some (0, 0)) = some ((k : Int), 0) := by
    intro d
    induction d with
    | zero =>
      intro j hj hjN
      have hjk : j = k := by omega
      subst hjk
      by_cases h0 : 0 < j
      · rw [loopO_stop (t := .inl ((j : Int), 0, (j : Int))) (by rw [step j h0 hjN, if_pos hp])]; rfl
      · have : j = 0 := by omega
        subst this
        rw [loopO_stop (t := .inr (0, 0, ((0 : Nat) : Int))) (by unfold calxref03_Upper_l1; dsimp only; rw [ite_f (by omega)])]; rfl
    | succ d ih =>
      intro j hj hjN
      have hn : ¬ upP N t m r j := fun x => by have := hmax j hjN x; omega
      rw [loopO_next (s' := (0, 0, ((j - 1 : Nat) : Int))) (by rw [step j (by omega) hjN, if_neg hn]; congr 4; omega)]
      exact ih (j - 1) (by omega) (by omega)
  rw [hd]
  have := hrun (N.toNat - k) N.toNat (by omega) (by omega)
  rw [Int.toNat_of_nonneg (show 0 ≤ N by omega)] at this
  exact this
theorem rLower_eq {N t m : Int} {r : TRatio} (h : TkS N t m r) {k : Nat} (hk : (k : Int) ≤ N) (hp : loP N t m r k) (hmin : ∀ j : Nat, (j : Int) ≤ N → loP N t m r j → k ≤ j) : calxref03_Lower N t m r = some ((k : Int), 0) := by
  obtain ⟨hN, ht, hm, hr⟩ := h
  have hC := binom50' (N := N.toNat) (by omega) t.toNat
  have hd : calxref03_Lower N t m r = (loopO (calxref03_Lower_l1 N t m r (binom N.toNat t.toNat : Int)) (0, 0, 0)).bind fun u18 => match u18 with | (.inl u24) => some (u24.1, u24.2.1) | (.inr u25) => some (N, 0) := by
    unfold calxref03_Lower
    rw [rlot_eq, in_eq, in_eq, rlevel_eq, bnd rfl, decide_eq_true (show (1 ≤ N ∧ N ≤ 50) ∧ (0 : Int) ≤ 0 ∧ 0 ≤ N by omega), decide_eq_true ht, decide_eq_true hm, decide_eq_true hr, rchoose_eq (by omega) (by omega) (by omega)]
    rfl
  have step : ∀ j : Nat, (j : Int) < N → calxref03_Lower_l1 N t m r (binom N.toNat t.toNat : Int) (0, 0, (j : Int)) = if loP N t m r j then some (.inr (.inl ((j : Int), 0, (j : Int)))) else some (.inl (0, 0, ((j + 1 : Nat) : Int))) := by
    intro j hjN
    have hA := AM_le' (m := m - 1) hN ht (B := j) (by omega)
    unfold calxref03_Lower_l1; dsimp only
    rw [ite_t (by omega), w64_id (x := m - 1) (by omega) (by omega), ratMost_eq (by omega) hN.2 ht, bnd rfl, Int.toNat_natCast, w64_id (x := (binom N.toNat t.toNat : Int) - _) (by omega) (by omega), (lv_mul hr (x := (binom N.toNat t.toNat : Int)) (by omega)).2.2, (lv_mul hr (x := (binom N.toNat t.toNat : Int) - (AM N.toNat j t.toNat (cnt t (m - 1)) : Int)) (by omega)).2.1, Int.mul_comm (binom N.toNat t.toNat : Int), w64_succ (by omega)]
    by_cases hu : loP N t m r j
    · have hu' : r.fNum * (binom N.toNat t.toNat : Int) ≤ ((binom N.toNat t.toNat : Int) - (AM N.toNat j t.toNat (cnt t (m - 1)) : Int)) * r.fDen := hu
      rw [if_pos hu, ite_t hu']
    · have hu' : ¬ r.fNum * (binom N.toNat t.toNat : Int) ≤ ((binom N.toNat t.toNat : Int) - (AM N.toNat j t.toNat (cnt t (m - 1)) : Int)) * r.fDen := hu
      rw [if_neg hu, ite_f hu']
  have hrun := loop_for (body := calxref03_Lower_l1 N t m r (binom N.toNat t.toNat : Int)) (fun j => (0, 0, (j : Int))) k (fun j hj => by rw [step j (by omega), if_neg (fun x => by have := hmin j (by omega) x; omega)])
  have h0 : loopO (calxref03_Lower_l1 N t m r (binom N.toNat t.toNat : Int)) (0, 0, 0) = _ := hrun
  rw [hd, h0]
  by_cases hlt : (k : Int) < N
  · rw [loopO_stop (t := .inl ((k : Int), 0, (k : Int))) (by rw [step k hlt, if_pos hp])]; rfl
  · rw [loopO_stop (t := .inr (0, 0, (k : Int))) (by unfold calxref03_Lower_l1; dsimp only; rw [ite_f (by omega)])]
    have : N = (k : Int) := by omega
    rw [this]; rfl
theorem SampleLevels_true (N B t m : Int) (r : TRatio) (_ : Rg_i64 N) (_ : Rg_i64 B) (_ : Rg_i64 t) (_ : Rg_i64 m) (_ : TRatio_rg r) : calxlaw03_SampleLevels N B t m r = some true := by
  unfold calxlaw03_SampleLevels
  rw [head_true, bnd rfl, AtMost_eq, bnd rfl, rAtMost_eq, bnd rfl]
  by_cases h : TkS N t m r
  · obtain ⟨u, u1, u2, u3, u4⟩ := Upper_eq N t m r h
    obtain ⟨w, w1, w2, w3, w4⟩ := Lower_eq N t m r h
    rw [u4, rUpper_eq h u1 u2 u3, w4, rLower_eq h w1 w2 w3]
    simp
  · rw [Upper_err h, rUpper_err h, Lower_err h, rLower_err h]
    simp
end Go.Proofs.Ytepfgdfahinpkaa
