/- Plain laws of sample: the smallest plan, in the reference; what SampleSmallest's plain function says is true. No program in sight. -/
import Derived.Test.YtepfgdfahinpkaaNh
set_option linter.unusedVariables false
namespace Go.Proofs.Ytepfgdfahinpkaa
section
variable {N g B : Int} {a r : TRatio}
theorem rSmall_l2_step (h : SmOk N g B a r) {n k : Nat} (hn : (n : Int) ≤ N) (hk : k ≤ n) (f0 f o1 o2 p1 p2 : Int) :
    calxref03_Smallest_l2 N g B a r (f0, (n : Int), p1, p2) (binom N.toNat n : Int) (f, (k : Int), o1, o2) = if Tl N g B a r n k then some (.inr (.inl (0, (k : Int), (n : Int), (k : Int)))) else some (.inl (f, ((k + 1 : Nat) : Int), o1, o2)) := by
  obtain ⟨hN, hg, ha, hr⟩ := h
  have hC := binom50' (N := N.toNat) (by omega) n
  have hA := AM_le (N := N.toNat) (B := B.toNat) (t := n) (c := k + 1) (by omega) (by omega)
  have hG := AM_le (N := N.toNat) (B := g.toNat) (t := n) (c := k + 1) (by omega) (by omega)
  unfold calxref03_Smallest_l2; dsimp only
  rw [ite_t (by omega), ratMost_eq (by omega) hN.2 (by omega), bnd rfl, cnt_le hk, Int.toNat_natCast, (lv_mul ha (x := (binom N.toNat n : Int)) (by omega)).2.2, (lv_mul ha (x := (AM N.toNat g.toNat n (k + 1) : Int)) (by omega)).2.1, Int.mul_comm (binom N.toNat n : Int) a.fNum, ratMost_eq (by omega) hN.2 (by omega), cnt_le hk, Int.toNat_natCast, w64_succ (by omega)]
  by_cases h1 : a.fNum * (binom N.toNat n : Int) ≤ (AM N.toNat g.toNat n (k + 1) : Int) * a.fDen
  · rw [ite_t h1, bnd rfl, bnd rfl, (lv_mul hr (x := (AM N.toNat B.toNat n (k + 1) : Int)) (by omega)).2.1, (lv_mul hr (x := (binom N.toNat n : Int)) (by omega)).2.2, Int.mul_comm (binom N.toNat n : Int) r.fNum]
    by_cases h2 : (AM N.toNat B.toNat n (k + 1) : Int) * r.fDen ≤ r.fNum * (binom N.toNat n : Int)
    · rw [if_pos (show Tl N g B a r n k from ⟨h1, h2⟩), ite_t h2]
    · rw [if_neg (show ¬ Tl N g B a r n k from fun x => h2 x.2), ite_f h2]
  · rw [ite_f h1, bnd rfl, if_neg (by simp), if_neg (show ¬ Tl N g B a r n k from fun x => h1 x.1)]
theorem rSmall_l2_none (h : SmOk N g B a r) {n : Nat} (hn : (n : Int) ≤ N) (f0 f o1 o2 p1 p2 : Int) (hall : ∀ k, k ≤ n → ¬ Tl N g B a r n k) :
    loopO (calxref03_Smallest_l2 N g B a r (f0, (n : Int), p1, p2) (binom N.toNat n : Int)) (f, 0, o1, o2) = some (.inr (f, ((n + 1 : Nat) : Int), o1, o2)) := by
  have := loop_run (body := calxref03_Smallest_l2 N g B a r (f0, (n : Int), p1, p2) (binom N.toNat n : Int)) (fun k => (f, (k : Int), o1, o2)) (n + 1) (t := .inr (f, ((n + 1 : Nat) : Int), o1, o2)) (fun k hk => by rw [rSmall_l2_step h hn (by omega), if_neg (hall k (by omega))]) (by
    unfold calxref03_Smallest_l2; dsimp only
    rw [ite_f (by omega)])
  exact this
theorem rSmall_l2_some (h : SmOk N g B a r) {n k : Nat} (hn : (n : Int) ≤ N) (hk : k ≤ n) (f0 f o1 o2 p1 p2 : Int) (ht : Tl N g B a r n k) (hmin : ∀ j, j < k → ¬ Tl N g B a r n j) :
    loopO (calxref03_Smallest_l2 N g B a r (f0, (n : Int), p1, p2) (binom N.toNat n : Int)) (f, 0, o1, o2) = some (.inl (0, (k : Int), (n : Int), (k : Int))) := by
  have := loop_run (body := calxref03_Smallest_l2 N g B a r (f0, (n : Int), p1, p2) (binom N.toNat n : Int)) (fun k => (f, (k : Int), o1, o2)) k (t := .inl (0, (k : Int), (n : Int), (k : Int))) (fun j hj => by rw [rSmall_l2_step h hn (by omega), if_neg (hmin j hj)]) (by rw [rSmall_l2_step h hn hk, if_pos ht])
  exact this
theorem rSmallest_def (h : SmOk N g B a r) : calxref03_Smallest N g B a r = (loopO (calxref03_Smallest_l1 N g B a r) (0, 0, 0, 0)).bind fun u19 => match u19 with | (.inl u40) => some ((TTrial.mk u40.2.2.1 u40.2.2.2), u40.1) | (.inr u41) => some ((TTrial.mk 0 0), 5) := by
  obtain ⟨hN, hg, ha, hr⟩ := h
  unfold calxref03_Smallest
  rw [in_eq, bnd rfl, if_neg (by simp; omega), rlevel_eq, bnd rfl, bnd rfl, rlevel_eq, decide_eq_true ha, decide_eq_true hr]
  rfl
theorem rl1_none (h : SmOk N g B a r) {n : Nat} (hn : (n : Int) ≤ N) (hall : ∀ k, k ≤ n → ¬ Tl N g B a r n k) : calxref03_Smallest_l1 N g B a r (0, (n : Int), 0, 0) = some (.inl (0, ((n + 1 : Nat) : Int), 0, 0)) := by
  have hN := h.1
  unfold calxref03_Smallest_l1; dsimp only
  rw [ite_t hn, rchoose_eq (by omega) (by omega) (by omega), bnd rfl, Int.toNat_natCast, rSmall_l2_none h hn _ _ _ _ _ _ hall, w64_succ (by omega)]
  rfl
theorem rSmallest_same (h : SmOk N g B a r) : calxref03_Smallest N g B a r = sample_Smallest N g B a r := by
  have hN := h.1
  rw [rSmallest_def h]
  rcases Smallest_eq h with ⟨h1, h2⟩ | ⟨n, k, h1, h2, h3, h4, h5⟩
  · rw [h2]
    have := loop_run (body := calxref03_Smallest_l1 N g B a r) (fun n => (0, (n : Int), 0, 0)) (N.toNat + 1) (t := .inr (0, ((N.toNat + 1 : Nat) : Int), 0, 0)) (fun n hn => rl1_none h (by omega) (h1 n (by omega))) (by
      unfold calxref03_Smallest_l1; dsimp only
      rw [ite_f (by omega)])
    have h0 : loopO (calxref03_Smallest_l1 N g B a r) (0, 0, 0, 0) = _ := this
    rw [h0]; rfl
  · rw [h5]
    have := loop_run (body := calxref03_Smallest_l1 N g B a r) (fun n => (0, (n : Int), 0, 0)) n (t := .inl (0, (n : Int), (n : Int), (k : Int))) (fun j hj => rl1_none h (by omega) (h4 j hj)) (by
      unfold calxref03_Smallest_l1; dsimp only
      rw [ite_t h1, rchoose_eq (by omega) (by omega) (by omega), bnd rfl, Int.toNat_natCast, rSmall_l2_some h h1 h2 _ _ _ _ _ _ h3.1 h3.2]
      rfl)
    have h0 : loopO (calxref03_Smallest_l1 N g B a r) (0, 0, 0, 0) = _ := this
    rw [h0]; rfl
theorem rSmallest_err (h : ¬ SmOk N g B a r) : calxref03_Smallest N g B a r = some (⟨0, 0⟩, 1) := by
  unfold calxref03_Smallest
  rw [in_eq, bnd rfl, rlevel_eq, rlevel_eq]
  by_cases h1 : (1 ≤ N ∧ N ≤ 50) ∧ (0 ≤ g ∧ g < B ∧ B ≤ N)
  · rw [if_neg (by simp; omega), bnd rfl, bnd rfl]
    by_cases h2 : LvS a
    · by_cases h3 : LvS r
      · exact absurd ⟨h1.1, h1.2, h2, h3⟩ h
      · rw [decide_eq_true h2, decide_eq_false h3]; rfl
    · rw [decide_eq_false h2]; rfl
  · rw [if_pos (by simp; omega), bnd rfl, if_pos rfl, bnd rfl, if_pos rfl]
end
theorem SampleSmallest_true (N g B : Int) (a r : TRatio) (_ : Rg_i64 N) (_ : Rg_i64 g) (_ : Rg_i64 B) (_ : TRatio_rg a) (_ : TRatio_rg r) : calxlaw03_SampleSmallest N g B a r = some true := by
  unfold calxlaw03_SampleSmallest
  rw [head_true, bnd rfl]
  split
  · rfl
  · by_cases h : SmOk N g B a r
    · rw [rSmallest_same h]
      rcases Smallest_eq h with ⟨h1, h2⟩ | ⟨n, k, h1, h2, h3, h4, h5⟩
      · rw [h2]; simp
      · rw [h5]; simp
    · rw [Smallest_err h, rSmallest_err h]; rfl
end Go.Proofs.Ytepfgdfahinpkaa
