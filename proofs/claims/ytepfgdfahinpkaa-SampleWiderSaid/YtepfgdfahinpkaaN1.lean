/- In how many ways some things can be chosen: what the program's loop computes, up to 50 things. No program in sight. -/
import Derived.Test.YtepfgdfahinpkaaE
import Derived.KernelRfl
namespace Go.Proofs.Ytepfgdfahinpkaa

/-- Pascal's triangle. -/
def pasRow : Nat → List Nat
  | 0 => [1]
  | n + 1 => List.zipWith (· + ·) (0 :: pasRow n) (pasRow n ++ [0])
def binom (n k : Nat) : Nat := (pasRow n).getD k 0
theorem pasRow_len : ∀ n, (pasRow n).length = n + 1
  | 0 => rfl
  | n + 1 => by simp [pasRow, pasRow_len n]
theorem binom_zero (n : Nat) : binom n 0 = 1 := by
  induction n with
  | zero => rfl
  | succ n ih =>
    unfold binom at ih ⊢
    have hl := pasRow_len n
    cases h : pasRow n with
    | nil => rw [h] at hl; simp at hl
    | cons x xs =>
      rw [h] at ih
      simp [pasRow, h] at ih ⊢
      exact ih
theorem binom_succ (n k : Nat) : binom (n + 1) (k + 1) = binom n k + binom n (k + 1) := by
  unfold binom
  have hl := pasRow_len n
  simp only [pasRow, List.getD_eq_getElem?_getD, List.getElem?_zipWith]
  by_cases h : k + 1 < n + 1
  · rw [List.getElem?_cons_succ, List.getElem?_append_left (by omega), List.getElem?_eq_getElem (show k < (pasRow n).length by omega), List.getElem?_eq_getElem (show k + 1 < (pasRow n).length by omega)]
    rfl
  · by_cases h2 : k = n
    · subst h2
      rw [List.getElem?_cons_succ, List.getElem?_append_right (by omega), List.getElem?_eq_getElem (show k < (pasRow k).length by omega), List.getElem?_eq_none (show (pasRow k).length ≤ k + 1 by omega)]
      simp [hl]
    · rw [List.getElem?_cons_succ, List.getElem?_eq_none (show (pasRow n).length ≤ k by omega), List.getElem?_eq_none (show (pasRow n).length ≤ k + 1 by omega)]
      simp
def chkChoose (N fuel : Nat) : Bool := (List.range (N + 1)).all fun n => (List.range (N + 2)).all fun k => decide (sample_choose_c fuel (n : Int) (k : Int) = some ((pasRow n).getD k 0 : Int))
theorem chkChoose_50 : chkChoose 50 30 = true := by kernel_rfl
theorem choose_spec {n k : Int} (h0 : 0 ≤ n) (h1 : n ≤ 50) (h2 : 0 ≤ k) (h3 : k ≤ 51) : sample_choose n k = some (binom n.toNat k.toNat : Int) := by
  have h := chkChoose_50
  unfold chkChoose at h
  have h4 := List.all_eq_true.1 h n.toNat (List.mem_range.2 (by omega))
  have h5 := List.all_eq_true.1 h4 k.toNat (List.mem_range.2 (by omega))
  have h6 := of_decide_eq_true h5
  rw [Int.toNat_of_nonneg h0, Int.toNat_of_nonneg h2] at h6
  exact sample_choose_le 30 n k _ h6
/-- More than there are cannot be chosen. -/
theorem choose_far {n k : Int} (h : n < k) : sample_choose n k = some 0 := by
  unfold sample_choose
  rw [if_pos (by simpa using h)]
theorem binom_far : ∀ (n k : Nat), n < k → binom n k = 0 := fun n k h => by
  unfold binom
  rw [List.getD_eq_getElem?_getD, List.getElem?_eq_none (by rw [pasRow_len]; omega)]
  rfl
theorem sum_zeros {α : Type} : ∀ l : List α, (l.map fun _ => 0).sum = 0
  | [] => rfl
  | _ :: l => by simp [sum_zeros l]
theorem sum_add {α : Type} (f g : α → Nat) : ∀ l : List α, (l.map fun i => f i + g i).sum = (l.map f).sum + (l.map g).sum
  | [] => rfl
  | x :: l => by simp only [List.map_cons, List.sum_cons, sum_add f g l]; omega
/-- Of two lots together. -/
theorem vander (b : Nat) : ∀ (a s : Nat), ((List.range (s + 1)).map fun i => binom a i * binom b (s - i)).sum = binom (a + b) s
  | 0, s => by
    rw [List.range_succ_eq_map, List.map_cons, List.sum_cons, List.map_map]
    have : ((List.range s).map ((fun i => binom 0 i * binom b (s - i)) ∘ Nat.succ)).sum = 0 := by
      rw [List.map_congr_left (g := fun _ => 0) (fun i _ => by
        show binom 0 (i + 1) * _ = 0
        rw [binom_far 0 (i + 1) (by omega), Nat.zero_mul])]
      exact sum_zeros _
    rw [this, binom_zero]
    simp
  | a + 1, 0 => by simp [binom_zero]
  | a + 1, s + 1 => by
    have h1 := vander b a (s + 1)
    have h2 := vander b a s
    rw [show a + 1 + b = (a + b) + 1 by omega, binom_succ, ← h1, ← h2]
    rw [List.range_succ_eq_map (n := s + 1), List.map_cons, List.sum_cons, List.map_map, List.map_cons, List.sum_cons, List.map_map]
    have : ((List.range (s + 1)).map ((fun i => binom (a + 1) i * binom b (s + 1 - i)) ∘ Nat.succ)).sum = ((List.range (s + 1)).map (fun i => binom a i * binom b (s - i))).sum + ((List.range (s + 1)).map ((fun i => binom a i * binom b (s + 1 - i)) ∘ Nat.succ)).sum := by
      rw [← sum_add]
      congr 1
      apply List.map_congr_left
      intro i _
      show binom (a + 1) (i + 1) * binom b (s + 1 - (i + 1)) = binom a i * binom b (s - i) + binom a (i + 1) * binom b (s + 1 - (i + 1))
      rw [binom_succ, Nat.add_mul, Nat.add_sub_add_right]
    rw [this, binom_zero, binom_zero]
    omega
end Go.Proofs.Ytepfgdfahinpkaa
