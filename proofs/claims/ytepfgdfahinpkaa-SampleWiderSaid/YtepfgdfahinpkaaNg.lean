/- Plain laws of sample: the smallest plan; what SampleLeast's plain function says is true. No program in sight. -/
import Derived.Test.YtepfgdfahinpkaaNf
set_option linter.unusedVariables false
namespace Go.Proofs.Ytepfgdfahinpkaa

/-- A plan tells a good batch from a bad one. -/
def Tl (N g B : Int) (a r : TRatio) (n k : Nat) : Prop :=
  Reach a (binom N.toNat n : Int) (AM N.toNat g.toNat n (k + 1) : Int) ∧ (AM N.toNat B.toNat n (k + 1) : Int) * r.fDen ≤ r.fNum * (binom N.toNat n : Int)
instance (N g B : Int) (a r : TRatio) (n k : Nat) : Decidable (Tl N g B a r n k) := by unfold Tl; infer_instance
def SmOk (N g B : Int) (a r : TRatio) : Prop := (1 ≤ N ∧ N ≤ 50) ∧ (0 ≤ g ∧ g < B ∧ B ≤ N) ∧ LvS a ∧ LvS r
instance (N g B : Int) (a r : TRatio) : Decidable (SmOk N g B a r) := by unfold SmOk; infer_instance
theorem cnt_le {n k : Nat} (h : k ≤ n) : cnt (n : Int) (k : Int) = k + 1 := by unfold cnt; omega
section
variable {N g B : Int} {a r : TRatio}
theorem Small_l2_step (h : SmOk N g B a r) {n k : Nat} (hn : (n : Int) ≤ N) (hk : k ≤ n) (f0 f : Bool) (o1 o2 p1 p2 : Int) :
    sample_Smallest_l2 N g B a r (f0, (n : Int), p1, p2) (binom N.toNat n : Int) (f, (k : Int), o1, o2) = if Tl N g B a r n k then some (.inr (.inl (true, (k : Int), (n : Int), (k : Int)))) else some (.inl (f, ((k + 1 : Nat) : Int), o1, o2)) := by
  obtain ⟨hN, hg, ha, hr⟩ := h
  have hC := binom50' (N := N.toNat) (by omega) n
  have hA := AM_le (N := N.toNat) (B := B.toNat) (t := n) (c := k + 1) (by omega) (by omega)
  have hG := AM_le (N := N.toNat) (B := g.toNat) (t := n) (c := k + 1) (by omega) (by omega)
  unfold sample_Smallest_l2; dsimp only
  rw [w64_id (x := (n : Int) + 1) (by omega) (by omega), ite_t (by omega), atMost_eq (by omega) hN.2 (by omega) (by omega), bnd rfl]
  unfold sample_reaches
  rw [bnd rfl, atMost_eq (by omega) hN.2 (by omega) (by omega), bnd rfl, cnt_le hk, Int.toNat_natCast, reaches_eq ha (by omega) (by omega), bnd rfl, (lv_mul hr (x := (AM N.toNat B.toNat n (k + 1) : Int)) (by omega)).2.1, (lv_mul hr (x := (binom N.toNat n : Int)) (by omega)).1, w64_succ (by omega)]
  by_cases ht : Tl N g B a r n k
  · rw [if_pos ht, if_pos]
    rw [decide_eq_true ht.1, decide_eq_true ht.2]; rfl
  · rw [if_neg ht, if_neg]
    intro hc
    rw [Bool.and_eq_true, decide_eq_true_eq, decide_eq_true_eq] at hc
    exact ht hc
theorem Small_l2_run (h : SmOk N g B a r) {n : Nat} (hn : (n : Int) ≤ N) (f0 f : Bool) (o1 o2 p1 p2 : Int) :
    ((∀ k, k ≤ n → ¬ Tl N g B a r n k) ∧ loopO (sample_Smallest_l2 N g B a r (f0, (n : Int), p1, p2) (binom N.toNat n : Int)) (f, 0, o1, o2) = some (.inr (f, ((n + 1 : Nat) : Int), o1, o2))) ∨
    ∃ k, k ≤ n ∧ (Tl N g B a r n k ∧ ∀ j, j < k → ¬ Tl N g B a r n j) ∧ loopO (sample_Smallest_l2 N g B a r (f0, (n : Int), p1, p2) (binom N.toNat n : Int)) (f, 0, o1, o2) = some (.inl (true, (k : Int), (n : Int), (k : Int))) := by
  have hN := h.1
  rcases first_or (fun k => ¬ Tl N g B a r n k) (n + 1) with hall | ⟨k, hk, h1, h2⟩
  · refine .inl ⟨fun k hk => hall k (by omega), ?_⟩
    have := loop_run (body := sample_Smallest_l2 N g B a r (f0, (n : Int), p1, p2) (binom N.toNat n : Int)) (fun k => (f, (k : Int), o1, o2)) (n + 1) (t := .inr (f, ((n + 1 : Nat) : Int), o1, o2)) (fun k hk => by rw [Small_l2_step h hn (by omega), if_neg (hall k hk)]) (by
      unfold sample_Smallest_l2; dsimp only
      rw [w64_id (x := (n : Int) + 1) (by omega) (by omega), ite_f (by omega)])
    exact this
  · have h3 : Tl N g B a r n k := Classical.byContradiction h2
    refine .inr ⟨k, by omega, ⟨h3, h1⟩, ?_⟩
    have := loop_run (body := sample_Smallest_l2 N g B a r (f0, (n : Int), p1, p2) (binom N.toNat n : Int)) (fun k => (f, (k : Int), o1, o2)) k (t := .inl (true, (k : Int), (n : Int), (k : Int))) (fun j hj => by rw [Small_l2_step h hn (by omega), if_neg (h1 j hj)]) (by rw [Small_l2_step h hn (by omega), if_pos h3])
    exact this
theorem Small_l1_run (h : SmOk N g B a r) :
    ((∀ n : Nat, (n : Int) ≤ N → ∀ k, k ≤ n → ¬ Tl N g B a r n k) ∧ ∃ x, loopO (sample_Smallest_l1 N g B a r) (false, 0, 0, 0) = some (false, x, 0, 0)) ∨
    ∃ n k : Nat, (n : Int) ≤ N ∧ k ≤ n ∧ (Tl N g B a r n k ∧ ∀ j, j < k → ¬ Tl N g B a r n j) ∧ (∀ n' : Nat, n' < n → ∀ k, k ≤ n' → ¬ Tl N g B a r n' k) ∧ loopO (sample_Smallest_l1 N g B a r) (false, 0, 0, 0) = some (true, (n : Int), (n : Int), (k : Int)) := by
  have hN := h.1
  have step : ∀ n : Nat, (n : Int) ≤ N → ((∀ k, k ≤ n → ¬ Tl N g B a r n k) ∧ sample_Smallest_l1 N g B a r (false, (n : Int), 0, 0) = some (.inl (false, ((n + 1 : Nat) : Int), 0, 0))) ∨ ∃ k, k ≤ n ∧ (Tl N g B a r n k ∧ ∀ j, j < k → ¬ Tl N g B a r n j) ∧ sample_Smallest_l1 N g B a r (false, (n : Int), 0, 0) = some (.inr (true, (n : Int), (n : Int), (k : Int))) := by
    intro n hn
    unfold sample_Smallest_l1; dsimp only
    rw [w64_id (x := N + 1) (by omega) (by omega), ite_t (by omega), choose_eq (by omega) (by omega) (by omega), bnd rfl, Int.toNat_natCast, w64_succ (by omega)]
    rcases Small_l2_run h hn false false 0 0 0 0 with ⟨h1, h2⟩ | ⟨k, h1, h2, h3⟩
    · exact .inl ⟨h1, by rw [h2]; rfl⟩
    · exact .inr ⟨k, h1, h2, by rw [h3]; rfl⟩
  rcases @first_or (fun n => ∀ k, k ≤ n → ¬ Tl N g B a r n k) (fun _ => Classical.propDecidable _) (N.toNat + 1) with hall | ⟨n, hn, h1, h2⟩
  · refine .inl ⟨fun n hn => hall n (by omega), ((N.toNat + 1 : Nat) : Int), ?_⟩
    have := loop_run (body := sample_Smallest_l1 N g B a r) (fun n => (false, (n : Int), 0, 0)) (N.toNat + 1) (t := (false, ((N.toNat + 1 : Nat) : Int), 0, 0)) (fun n hn => by
      rcases step n (by omega) with ⟨_, h4⟩ | ⟨k, h3, h4, _⟩
      · exact h4
      · exact absurd h4.1 (hall n hn k h3)) (by
      unfold sample_Smallest_l1; dsimp only
      rw [w64_id (x := N + 1) (by omega) (by omega), ite_f (by omega)])
    exact this
  · rcases step n (by omega) with ⟨h3, _⟩ | ⟨k, h3, h4, h5⟩
    · exact absurd h3 h2
    · refine .inr ⟨n, k, by omega, h3, h4, h1, ?_⟩
      have := loop_run (body := sample_Smallest_l1 N g B a r) (fun n => (false, (n : Int), 0, 0)) n (t := (true, (n : Int), (n : Int), (k : Int))) (fun j hj => by
        rcases step j (by omega) with ⟨_, h7⟩ | ⟨q, h6, h7, _⟩
        · exact h7
        · exact absurd h7.1 (h1 j hj q h6)) h5
      exact this
theorem Smallest_eq (h : SmOk N g B a r) :
    ((∀ n : Nat, (n : Int) ≤ N → ∀ k, k ≤ n → ¬ Tl N g B a r n k) ∧ sample_Smallest N g B a r = some (⟨0, 0⟩, 5)) ∨
    ∃ n k : Nat, (n : Int) ≤ N ∧ k ≤ n ∧ (Tl N g B a r n k ∧ ∀ j, j < k → ¬ Tl N g B a r n j) ∧ (∀ n' : Nat, n' < n → ∀ k, k ≤ n' → ¬ Tl N g B a r n' k) ∧ sample_Smallest N g B a r = some (⟨(n : Int), (k : Int)⟩, 0) := by
  have h' := h
  obtain ⟨hN, hg, ha, hr⟩ := h'
  have hd : sample_Smallest N g B a r = (loopO (sample_Smallest_l1 N g B a r) (false, 0, 0, 0)).bind fun u20 => (if (!u20.1) = true then some ((TTrial.mk 0 0), 5) else some ((TTrial.mk u20.2.2.1 u20.2.2.2), 0)) := by
    unfold sample_Smallest
    rw [within_eq, bnd rfl, if_neg (by simp; omega), isLevel_eq, bnd rfl, bnd rfl, isLevel_eq, decide_eq_true ha, decide_eq_true hr]
    rfl
  rw [hd]
  rcases Small_l1_run h with ⟨h1, x, h2⟩ | ⟨n, k, h1, h2, h3, h4, h5⟩
  · exact .inl ⟨h1, by rw [h2]; rfl⟩
  · exact .inr ⟨n, k, h1, h2, h3, h4, by rw [h5]; rfl⟩
theorem Smallest_err (h : ¬ SmOk N g B a r) : sample_Smallest N g B a r = some (⟨0, 0⟩, 1) := by
  unfold sample_Smallest
  rw [within_eq, bnd rfl, isLevel_eq, isLevel_eq]
  by_cases h1 : (1 ≤ N ∧ N ≤ 50) ∧ (0 ≤ g ∧ g < B ∧ B ≤ N)
  · rw [if_neg (by simp; omega), bnd rfl, bnd rfl]
    by_cases h2 : LvS a
    · by_cases h3 : LvS r
      · exact absurd ⟨h1.1, h1.2, h2, h3⟩ h
      · rw [decide_eq_true h2, decide_eq_false h3]; rfl
    · rw [decide_eq_false h2]; rfl
  · rw [if_pos (by simp; omega), bnd rfl, if_pos rfl, bnd rfl, if_pos rfl]
/-! ### What plans tell -/
theorem cross_eq {x y : TRatio} (hx : 0 ≤ x.fNum ∧ x.fNum ≤ 1048576 ∧ 1 ≤ x.fDen ∧ x.fDen ≤ 1048576) (hy : 0 ≤ y.fNum ∧ y.fNum ≤ 1048576 ∧ 1 ≤ y.fDen ∧ y.fDen ≤ 1048576) : calxlaw03_cross x y = some (decide (x.fNum * y.fDen ≤ y.fNum * x.fDen)) := by
  have a1 : 0 ≤ x.fNum * y.fDen ∧ x.fNum * y.fDen ≤ 1048576 * 1048576 := ⟨Int.mul_nonneg (by omega) (by omega), Int.mul_le_mul (by omega) (by omega) (by omega) (by decide)⟩
  have a2 : 0 ≤ y.fNum * x.fDen ∧ y.fNum * x.fDen ≤ 1048576 * 1048576 := ⟨Int.mul_nonneg (by omega) (by omega), Int.mul_le_mul (by omega) (by omega) (by omega) (by decide)⟩
  unfold calxlaw03_cross
  rw [if_neg (by simp; omega), w64_id (by omega) (by omega), w64_id (by omega) (by omega)]
theorem frac_le {A n C G x y : Nat} {d : Int} {e : Int} (hC : 0 < C) (h1 : n = G * x) (h2 : C = G * y) : (d * (y : Int) ≤ (x : Int) * e ↔ d * (C : Int) ≤ (n : Int) * e) ∧ ((x : Int) * e ≤ d * (y : Int) ↔ (n : Int) * e ≤ d * (C : Int)) := by
  have hG : 0 < G := by
    rcases Nat.eq_zero_or_pos G with h | h
    · rw [h] at h2; omega
    · exact h
  have e1 : d * (C : Int) = (G : Int) * (d * (y : Int)) := by rw [h2, Int.natCast_mul]; rw [← Int.mul_assoc, Int.mul_comm d, Int.mul_assoc]
  have e2 : (n : Int) * e = (G : Int) * ((x : Int) * e) := by rw [h1, Int.natCast_mul, Int.mul_assoc]
  have hG' : (0 : Int) < (G : Int) := by omega
  rw [e1, e2]
  exact ⟨⟨fun h => Int.mul_le_mul_of_nonneg_left h (by omega), fun h => Int.le_of_mul_le_mul_left h hG'⟩, ⟨fun h => Int.mul_le_mul_of_nonneg_left h (by omega), fun h => Int.le_of_mul_le_mul_left h hG'⟩⟩
theorem tells_eq (h : SmOk N g B a r) (h20 : N ≤ 20) {n k : Nat} (hn : (n : Int) ≤ N) (hk : k ≤ n) : calxlaw03_tells N g B a r ⟨(n : Int), (k : Int)⟩ = some (decide (Tl N g B a r n k)) := by
  obtain ⟨hN, hg, ha, hr⟩ := h
  have hC : binom N.toNat n ≤ 1048576 := binom20 (by omega)
  have hp := binom_pos N.toNat n (by omega)
  have hA := AM_le (N := N.toNat) (B := B.toNat) (t := n) (c := k + 1) (by omega) (by omega)
  have hG := AM_le (N := N.toNat) (B := g.toNat) (t := n) (c := k + 1) (by omega) (by omega)
  obtain ⟨x1, y1, r1, p1, q1, s1, l1, m1⟩ := RatS_is (a := AM N.toNat g.toNat n (k + 1)) (b := binom N.toNat n) (by omega)
  obtain ⟨x2, y2, r2, p2, q2, s2, l2, m2⟩ := RatS_is (a := AM N.toNat B.toNat n (k + 1)) (b := binom N.toNat n) (by omega)
  have f1 := (frac_le (A := 0) (d := a.fNum) (e := a.fDen) (by omega) q1 s1).1
  have f2 := (frac_le (A := 0) (d := r.fNum) (e := r.fDen) (by omega) q2 s2).2
  have l1' := ha.1; have l2' := ha.2.1; have l3' := hr.1; have l4' := hr.2.1
  have e1 : sample_Pass N g ⟨(n : Int), (k : Int)⟩ = some (⟨(x1 : Int), (y1 : Int)⟩, 0) := by
    rw [Pass_eq, if_pos (by dsimp only; omega), ← r1]; rfl
  have e2 : sample_Pass N B ⟨(n : Int), (k : Int)⟩ = some (⟨(x2 : Int), (y2 : Int)⟩, 0) := by
    rw [Pass_eq, if_pos (by dsimp only; omega), ← r2]; rfl
  unfold calxlaw03_tells
  rw [e1, bnd rfl, e2, bnd rfl]
  rw [if_pos (by simp), cross_eq (by omega) (by dsimp only; omega), bnd rfl, bnd rfl]
  dsimp only
  by_cases c1 : a.fNum * (y1 : Int) ≤ (x1 : Int) * a.fDen
  · rw [decide_eq_true c1, if_pos rfl, cross_eq (by dsimp only; omega) (by omega), bnd rfl, bnd rfl]
    dsimp only
    by_cases c2 : (x2 : Int) * r.fDen ≤ r.fNum * (y2 : Int)
    · rw [decide_eq_true c2, decide_eq_true (show Tl N g B a r n k from ⟨f1.1 c1, f2.1 c2⟩)]
    · rw [decide_eq_false c2, decide_eq_false (show ¬ Tl N g B a r n k from fun x => c2 (f2.2 x.2))]
  · rw [decide_eq_false c1, if_neg (by simp), bnd rfl, decide_eq_false (show ¬ Tl N g B a r n k from fun x => c1 (f1.2 x.1))]
theorem Least_l2_run (h : SmOk N g B a r) (h20 : N ≤ 20) {n : Nat} (hn : (n : Int) ≤ N) (f0 : Bool) (hall : ∀ k, k ≤ n → ¬ Tl N g B a r n k) : loopO (calxlaw03_SampleLeast_l2 N g B a r (f0, (n : Int))) (false, 0) = some (.inr (false, ((n + 1 : Nat) : Int))) := by
  have hN := h.1
  have := loop_run (body := calxlaw03_SampleLeast_l2 N g B a r (f0, (n : Int))) (fun k => (false, (k : Int))) (n + 1) (t := .inr (false, ((n + 1 : Nat) : Int))) (fun k hk => by
    unfold calxlaw03_SampleLeast_l2; dsimp only
    rw [ite_t (by omega), tells_eq h h20 hn (by omega), bnd rfl, decide_eq_false (hall k (by omega)), if_neg (by simp), w64_succ (by omega)]) (by
    unfold calxlaw03_SampleLeast_l2; dsimp only
    rw [ite_f (by omega)])
  exact this
theorem SampleLeast_true (N g B : Int) (a r : TRatio) (_ : Rg_i64 N) (_ : Rg_i64 g) (_ : Rg_i64 B) (_ : TRatio_rg a) (_ : TRatio_rg r) : calxlaw03_SampleLeast N g B a r = some true := by
  unfold calxlaw03_SampleLeast
  rw [head_true, bnd rfl]
  by_cases h20 : 20 < N
  · rw [ite_t h20]
  · rw [ite_f h20]
    by_cases h : SmOk N g B a r
    · have hN := h.1
      rcases Smallest_eq h with ⟨h1, h2⟩ | ⟨n, k, h1, h2, h3, h4, h5⟩
      · rw [h2, bnd rfl, if_neg (by simp), if_neg (by simp)]
        have := loop_run (body := calxlaw03_SampleLeast_l3 N g B a r) (fun n => (false, (n : Int))) (N.toNat + 1) (t := .inr (false, ((N.toNat + 1 : Nat) : Int))) (fun n hn => by
          have e4 : calxlaw03_SampleLeast_l4 N g B a r = calxlaw03_SampleLeast_l2 N g B a r := rfl
          unfold calxlaw03_SampleLeast_l3; dsimp only
          rw [ite_t (by omega), e4, Least_l2_run h (by omega) (by omega) false (h1 n (by omega)), bnd rfl]
          dsimp only
          rw [w64_succ (by omega)]) (by
          unfold calxlaw03_SampleLeast_l3; dsimp only
          rw [ite_f (by omega)])
        have h6 : loopO (calxlaw03_SampleLeast_l3 N g B a r) (false, 0) = _ := this
        rw [h6]; rfl
      · rw [h5, bnd rfl, if_neg (by simp), if_pos (by simp), tells_eq h (by omega) h1 h2, bnd rfl, decide_eq_true h3.1, if_neg (by simp)]
        have := loop_run (body := calxlaw03_SampleLeast_l1 N g B a r (⟨(n : Int), (k : Int)⟩, 0)) (fun n => (false, (n : Int))) n (t := .inr (false, (n : Int))) (fun j hj => by
          unfold calxlaw03_SampleLeast_l1; dsimp only
          rw [w64_id (x := (n : Int) - 1) (by omega) (by omega), ite_t (by omega), Least_l2_run h (by omega) (by omega) false (h4 j hj), bnd rfl]
          dsimp only
          rw [w64_succ (by omega)]) (by
          unfold calxlaw03_SampleLeast_l1; dsimp only
          rw [w64_id (x := (n : Int) - 1) (by omega) (by omega), ite_f (by omega)])
        have h6 : loopO (calxlaw03_SampleLeast_l1 N g B a r (⟨(n : Int), (k : Int)⟩, 0)) (false, 0) = _ := this
        rw [h6]; rfl
    · rw [Smallest_err h, bnd rfl, if_pos (by simp)]
end
end Go.Proofs.Ytepfgdfahinpkaa
