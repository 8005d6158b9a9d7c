/- The ways of all samples of a size are together Choose: what SampleAddsUp's plain function says is true. No program in sight. -/
import Derived.Test.YtepfgdfahinpkaaN1
namespace Go.Proofs.Ytepfgdfahinpkaa

theorem head_true : calxlaw03_head = some true := calxlaw03_head_le 100 _ (by kernel_rfl)
theorem binom_le : ∀ (n k : Nat), binom n k ≤ 2 ^ n
  | 0, 0 => by decide
  | 0, k + 1 => by rw [binom_far 0 (k + 1) (by omega)]; omega
  | n + 1, 0 => by rw [binom_zero]; exact Nat.one_le_two_pow
  | n + 1, k + 1 => by
    have h1 := binom_le n k
    have h2 := binom_le n (k + 1)
    rw [binom_succ, Nat.pow_succ]
    omega
theorem sel3_0 {α : Type} (a b c : α) : sel3 a b c 0 = a := rfl
theorem sel3_1 {α : Type} (a b c : α) : sel3 a b c 1 = b := rfl
theorem sel3_2 {α : Type} (a b c : α) : sel3 a b c 2 = c := rfl
theorem binom20 {n k : Nat} (h : n ≤ 20) : binom n k ≤ 1048576 := Nat.le_trans (binom_le n k) (Nat.pow_le_pow_right (by decide) h)
theorem choose20 {n k : Int} (h0 : 0 ≤ n) (h1 : n ≤ 20) (h2 : 0 ≤ k) (h3 : k ≤ 20) : sample_choose n k = some (binom n.toNat k.toNat : Int) := choose_spec h0 (by omega) h2 (by omega)
theorem mul_le20 {a b : Nat} {c : Nat} (h1 : a ≤ c) (h2 : b ≤ 1048576) : a * b ≤ c * 1048576 := Nat.mul_le_mul h1 h2
theorem ways_spec {w s : TKinds} (a0 : 0 ≤ w.x0) (a1 : w.x0 ≤ 20) (b0 : 0 ≤ w.x1) (b1 : w.x1 ≤ 20) (c0 : 0 ≤ w.x2) (c1 : w.x2 ≤ 20) (i0 : 0 ≤ s.x0) (i1 : s.x0 ≤ 20) (j0 : 0 ≤ s.x1) (j1 : s.x1 ≤ 20) (k0 : 0 ≤ s.x2) (k1 : s.x2 ≤ 20) :
    sample_ways w s = some (((binom w.x0.toNat s.x0.toNat * binom w.x1.toNat s.x1.toNat * binom w.x2.toNat s.x2.toNat : Nat)) : Int) := by
  have p := binom20 (n := w.x0.toNat) (k := s.x0.toNat) (by omega)
  have q := binom20 (n := w.x1.toNat) (k := s.x1.toNat) (by omega)
  have r := binom20 (n := w.x2.toNat) (k := s.x2.toNat) (by omega)
  have pq := mul_le20 p q
  have pqr := mul_le20 pq r
  generalize hP : binom w.x0.toNat s.x0.toNat = A at *
  generalize hQ : binom w.x1.toNat s.x1.toNat = B at *
  generalize hR : binom w.x2.toNat s.x2.toNat = C at *
  have e1 : sample_ways_l1 w s (1, 0) = some (.inl ((A : Int), 1)) := by
    unfold sample_ways_l1; dsimp only
    rw [if_pos (by simp), guardO_pos (by decide), guardO_pos (by decide)]
    show (sample_choose w.x0 s.x0).bind _ = _
    rw [choose20 a0 a1 i0 i1, hP]
    show some (Sum.inl (w64 (1 * (A : Int)), w64 (0 + 1))) = _
    rw [Int.one_mul, w64_id (by omega) (by omega)]
    rfl
  have e2 : sample_ways_l1 w s ((A : Int), 1) = some (.inl (((A * B : Nat) : Int), 2)) := by
    unfold sample_ways_l1; dsimp only
    rw [if_pos (by simp), guardO_pos (by decide), guardO_pos (by decide)]
    show (sample_choose w.x1 s.x1).bind _ = _
    rw [choose20 b0 b1 j0 j1, hQ]
    show some (Sum.inl (w64 ((A : Int) * (B : Int)), w64 (1 + 1))) = _
    rw [← Int.natCast_mul, w64_id (by omega) (by omega)]
    rfl
  have e3 : sample_ways_l1 w s (((A * B : Nat) : Int), 2) = some (.inl (((A * B * C : Nat) : Int), 3)) := by
    unfold sample_ways_l1; dsimp only
    rw [if_pos (by simp), guardO_pos (by decide), guardO_pos (by decide)]
    show (sample_choose w.x2 s.x2).bind _ = _
    rw [choose20 c0 c1 k0 k1, hR]
    show some (Sum.inl (w64 (((A * B : Nat) : Int) * (C : Int)), w64 (2 + 1))) = _
    rw [← Int.natCast_mul, w64_id (by omega) (by omega)]
    rfl
  have e4 : sample_ways_l1 w s (((A * B * C : Nat) : Int), 3) = some (.inr (((A * B * C : Nat) : Int), 3)) := by
    unfold sample_ways_l1; dsimp only
    rw [if_neg (by simp)]
  unfold sample_ways
  rw [loopO_next e1, loopO_next e2, loopO_next e3, loopO_stop e4]
  rfl
theorem size_spec {k : TKinds} (a0 : -1000000 ≤ k.x0) (b0 : -1000000 ≤ k.x1) (c0 : -1000000 ≤ k.x2) : sample_size k = some (min k.x0 51 + min k.x1 51 + min k.x2 51) := by
  have e1 : sample_sum_int_l1 [k.x0, k.x1, k.x2] (fun x => sample_size_1 x) (0, 0) = some (.inl (min k.x0 51, 1)) := by
    unfold sample_sum_int_l1; dsimp only
    rw [if_pos (by simp), guardO_pos (by simp)]
    show some (Sum.inl (w64 (0 + min k.x0 51), w64 (0 + 1))) = _
    rw [Int.zero_add, w64_id (by omega) (by omega)]
    rfl
  have e2 : sample_sum_int_l1 [k.x0, k.x1, k.x2] (fun x => sample_size_1 x) (min k.x0 51, 1) = some (.inl (min k.x0 51 + min k.x1 51, 2)) := by
    unfold sample_sum_int_l1; dsimp only
    rw [if_pos (by simp), guardO_pos (by simp)]
    show some (Sum.inl (w64 (min k.x0 51 + min k.x1 51), w64 (1 + 1))) = _
    rw [w64_id (by omega) (by omega)]
    rfl
  have e3 : sample_sum_int_l1 [k.x0, k.x1, k.x2] (fun x => sample_size_1 x) (min k.x0 51 + min k.x1 51, 2) = some (.inl (min k.x0 51 + min k.x1 51 + min k.x2 51, 3)) := by
    unfold sample_sum_int_l1; dsimp only
    rw [if_pos (by simp), guardO_pos (by simp)]
    show some (Sum.inl (w64 (min k.x0 51 + min k.x1 51 + min k.x2 51), w64 (2 + 1))) = _
    rw [w64_id (by omega) (by omega)]
    rfl
  have e4 : sample_sum_int_l1 [k.x0, k.x1, k.x2] (fun x => sample_size_1 x) (min k.x0 51 + min k.x1 51 + min k.x2 51, 3) = some (.inr (min k.x0 51 + min k.x1 51 + min k.x2 51, 3)) := by
    unfold sample_sum_int_l1; dsimp only
    rw [if_neg (by simp)]
  unfold sample_size sample_sum_int
  rw [loopO_next e1, loopO_next e2, loopO_next e3, loopO_stop e4]
  rfl
theorem isSample_spec (k : TKinds) : sample_isSample k = some (decide (0 ≤ k.x0 ∧ 0 ≤ k.x1 ∧ 0 ≤ k.x2)) := by
  unfold sample_isSample
  congr 1
  apply decide_eq_decide.2
  omega
theorem Ways_spec {w s : TKinds} (a0 : 0 ≤ w.x0) (a1 : w.x0 ≤ 20) (b0 : 0 ≤ w.x1) (b1 : w.x1 ≤ 20) (c0 : 0 ≤ w.x2) (c1 : w.x2 ≤ 20) (n0 : 1 ≤ w.x0 + w.x1 + w.x2) (n1 : w.x0 + w.x1 + w.x2 ≤ 50) (i0 : 0 ≤ s.x0) (i1 : s.x0 ≤ 20) (j0 : 0 ≤ s.x1) (j1 : s.x1 ≤ 20) (k0 : 0 ≤ s.x2) (k1 : s.x2 ≤ 20) :
    sample_Ways w s = some (((binom w.x0.toNat s.x0.toNat * binom w.x1.toNat s.x1.toNat * binom w.x2.toNat s.x2.toNat : Nat) : Int), 0) := by
  have e : sample_seenOf w s = some 0 := by
    unfold sample_seenOf
    rw [isSample_spec, isSample_spec, size_spec (by omega) (by omega) (by omega)]
    have h1 : decide (0 ≤ w.x0 ∧ 0 ≤ w.x1 ∧ 0 ≤ w.x2) = true := decide_eq_true ⟨a0, b0, c0⟩
    have h2 : decide (0 ≤ s.x0 ∧ 0 ≤ s.x1 ∧ 0 ≤ s.x2) = true := decide_eq_true ⟨i0, j0, k0⟩
    have h3 : decide (1 ≤ min w.x0 51 + min w.x1 51 + min w.x2 51) = true := decide_eq_true (by omega)
    have h4 : decide (min w.x0 51 + min w.x1 51 + min w.x2 51 ≤ 50) = true := decide_eq_true (by omega)
    simp only [h1, h2, sample_within, h3, h4, Option.bind_some, Bool.not_true, Bool.and_true, Bool.false_eq_true, if_false]
  unfold sample_Ways
  rw [e, ways_spec a0 a1 b0 b1 c0 c1 i0 i1 j0 j1 k0 k1]
  rfl
end Go.Proofs.Ytepfgdfahinpkaa
