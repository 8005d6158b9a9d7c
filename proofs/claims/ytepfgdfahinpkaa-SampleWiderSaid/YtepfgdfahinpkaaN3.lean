/- SampleAddsUp's plain function says true. No program in sight. -/
import Derived.Test.YtepfgdfahinpkaaN2
namespace Go.Proofs.Ytepfgdfahinpkaa

def fAU (a b c s i k : Nat) : Nat := binom a i * binom b k * binom c (s - i - k)
theorem fAU_le {a b c s i k : Nat} (h : a + b + c ≤ 20) : fAU a b c s i k ≤ 1048576 := by
  unfold fAU
  have h1 := Nat.mul_le_mul (Nat.mul_le_mul (binom_le a i) (binom_le b k)) (binom_le c (s - i - k))
  rw [← Nat.pow_add, ← Nat.pow_add] at h1
  exact Nat.le_trans h1 (Nat.pow_le_pow_right (by decide) h)
def sumK (a b c s i k : Nat) : Nat := ((List.range k).map fun j => fAU a b c s i j).sum
theorem sumK_succ (a b c s i k : Nat) : sumK a b c s i (k + 1) = sumK a b c s i k + fAU a b c s i k := by
  unfold sumK
  rw [List.range_succ]
  simp
def sumI (a b c s i : Nat) : Nat := ((List.range i).map fun j => sumK a b c s j (s - j + 1)).sum
theorem sumI_succ (a b c s i : Nat) : sumI a b c s (i + 1) = sumI a b c s i + sumK a b c s i (s - i + 1) := by
  unfold sumI
  rw [List.range_succ]
  simp
theorem sumK_le {a b c s i : Nat} (h : a + b + c ≤ 20) : ∀ k, sumK a b c s i k ≤ k * 1048576
  | 0 => by simp [sumK]
  | k + 1 => by
    have := sumK_le (s := s) (i := i) h k
    have := fAU_le (s := s) (i := i) (k := k) h
    rw [sumK_succ]
    omega
theorem sumI_le {a b c s : Nat} (h : a + b + c ≤ 20) (hs : s ≤ 20) : ∀ i, sumI a b c s i ≤ i * (21 * 1048576)
  | 0 => by simp [sumI]
  | i + 1 => by
    have := sumI_le h hs i
    have := sumK_le (s := s) (i := i) h (s - i + 1)
    rw [sumI_succ]
    omega
theorem sum_all (a b c s : Nat) : sumI a b c s (s + 1) = binom (a + b + c) s := by
  unfold sumI
  rw [show a + b + c = a + (b + c) by omega, ← vander (b + c) a s]
  congr 1
  apply List.map_congr_left
  intro i hi
  have hi' := List.mem_range.1 hi
  rw [← vander c b (s - i)]
  unfold sumK fAU
  rw [sum_scale]
  simp only [Nat.mul_assoc]
where
  sum_scale {x : Nat} {f : Nat → Nat} : ∀ {l : List Nat}, x * (l.map f).sum = (l.map fun j => x * f j).sum
    | [] => by simp
    | y :: l => by simp [Nat.mul_add, sum_scale (l := l)]
section
variable {w : TKinds} {p : Int}
theorem l3_run (a0 : 0 ≤ w.x0) (b0 : 0 ≤ w.x1) (c0 : 0 ≤ w.x2) (n0 : 1 ≤ w.x0 + w.x1 + w.x2) (n1 : w.x0 + w.x1 + w.x2 ≤ 20) (p0 : 0 ≤ p) (p1 : p ≤ 20) (bb : Bool) (acc i : Int) (hi0 : 0 ≤ i) (hi1 : i ≤ p) (hacc : 0 ≤ acc ∧ acc ≤ 1000000000000) (i' s' : Nat) (hi' : (i' : Int) = i) (hs' : (s' : Int) = p) :
    loopO (calxlaw03_SampleAddsUp_l3 w p (bb, acc, i)) (bb, acc, 0) = some (.inr (bb, acc + (sumK w.x0.toNat w.x1.toNat w.x2.toNat s' i' (s' - i' + 1) : Int), p - i + 1)) := by
  obtain ⟨t, h1, h2⟩ := loopO_inv (fun (s : Bool × Int × Int) => ∃ k : Nat, s = (bb, acc + (sumK w.x0.toNat w.x1.toNat w.x2.toNat s' i' k : Int), (k : Int)) ∧ (k : Int) ≤ p - i + 1)
    (fun _ t => t = .inr (bb, acc + (sumK w.x0.toNat w.x1.toNat w.x2.toNat s' i' (s' - i' + 1) : Int), p - i + 1)) (fun s => (p - i + 1 - s.2.2).toNat) (body := calxlaw03_SampleAddsUp_l3 w p (bb, acc, i)) (by
    rintro s ⟨k, rfl, hk⟩
    unfold calxlaw03_SampleAddsUp_l3; dsimp only
    have hsum := sumK_le (a := w.x0.toNat) (b := w.x1.toNat) (c := w.x2.toNat) (s := s') (i := i') (by omega) k
    have hf := fAU_le (a := w.x0.toNat) (b := w.x1.toNat) (c := w.x2.toNat) (s := s') (i := i') (k := k) (by omega)
    have hk20 : k ≤ 21 := by omega
    rw [w64_id (x := i + (k : Int)) (by omega) (by omega)]
    by_cases hc : i + (k : Int) ≤ p
    · left
      rw [if_pos (by simpa using hc)]
      have e1 : w64 (w64 (p - i) - (k : Int)) = p - i - k := by rw [w64_id (x := p - i) (by omega) (by omega), w64_id (by omega) (by omega)]
      rw [e1, Ways_spec a0 (by omega) b0 (by omega) c0 (by omega) n0 (by omega) (show (0 : Int) ≤ (TKinds.mk i k (p - i - k)).x0 from hi0) (show i ≤ 20 by omega) (show (0 : Int) ≤ (k : Int) by omega) (show (k : Int) ≤ 20 by omega) (show 0 ≤ p - i - k by omega) (show p - i - k ≤ 20 by omega)]
      have e2 : binom w.x0.toNat i.toNat * binom w.x1.toNat (k : Int).toNat * binom w.x2.toNat (p - i - k).toNat = fAU w.x0.toNat w.x1.toNat w.x2.toNat s' i' k := by
        unfold fAU
        rw [show i.toNat = i' by omega, show (k : Int).toNat = k by omega, show (p - i - k).toNat = s' - i' - k by omega]
      dsimp only [Option.bind_some]
      rw [e2]
      refine ⟨(bb, acc + (sumK w.x0.toNat w.x1.toNat w.x2.toNat s' i' (k + 1) : Int), ((k + 1 : Nat) : Int)), ?_, ⟨k + 1, rfl, by omega⟩, by dsimp only; omega, fun t h => h⟩
      rw [if_neg (by simp), sumK_succ, w64_id (by omega) (by omega), w64_id (by omega) (by omega)]
      congr 3
      congr 1
      omega
    · right
      have hke : k = s' - i' + 1 := by omega
      rw [if_neg (by simpa using hc)]
      refine ⟨_, rfl, ?_⟩
      rw [hke]
      congr 3
      omega) (bb, acc, 0) ⟨0, by simp [sumK], by omega⟩
  rw [h1, h2]
theorem l2_run (a0 : 0 ≤ w.x0) (b0 : 0 ≤ w.x1) (c0 : 0 ≤ w.x2) (n0 : 1 ≤ w.x0 + w.x1 + w.x2) (n1 : w.x0 + w.x1 + w.x2 ≤ 20) (p0 : 0 ≤ p) (p1 : p ≤ 20) (bb : Bool) (s' : Nat) (hs' : (s' : Int) = p) :
    loopO (calxlaw03_SampleAddsUp_l2 w p) (bb, 0, 0) = some (.inr (bb, (sumI w.x0.toNat w.x1.toNat w.x2.toNat s' (s' + 1) : Int), p + 1)) := by
  obtain ⟨t, h1, h2⟩ := loopO_inv (fun (s : Bool × Int × Int) => ∃ k : Nat, s = (bb, (sumI w.x0.toNat w.x1.toNat w.x2.toNat s' k : Int), (k : Int)) ∧ (k : Int) ≤ p + 1)
    (fun _ t => t = .inr (bb, (sumI w.x0.toNat w.x1.toNat w.x2.toNat s' (s' + 1) : Int), p + 1)) (fun s => (p + 1 - s.2.2).toNat) (body := calxlaw03_SampleAddsUp_l2 w p) (by
    rintro s ⟨k, rfl, hk⟩
    unfold calxlaw03_SampleAddsUp_l2; dsimp only
    have hsum := sumI_le (a := w.x0.toNat) (b := w.x1.toNat) (c := w.x2.toNat) (s := s') (by omega) (by omega) k
    by_cases hc : (k : Int) ≤ p
    · left
      rw [if_pos (by simpa using hc), l3_run a0 b0 c0 n0 n1 p0 p1 bb _ k (by omega) hc ⟨by omega, by omega⟩ k s' rfl hs']
      dsimp only [Option.bind_some]
      refine ⟨(bb, (sumI w.x0.toNat w.x1.toNat w.x2.toNat s' (k + 1) : Int), ((k + 1 : Nat) : Int)), ?_, ⟨k + 1, rfl, by omega⟩, by dsimp only; omega, fun t h => h⟩
      rw [sumI_succ, w64_id (by omega) (by omega)]
      congr 3
    · right
      have hke : k = s' + 1 := by omega
      rw [if_neg (by simpa using hc)]
      refine ⟨_, rfl, ?_⟩
      rw [hke]
      congr 3
      omega) (bb, 0, 0) ⟨0, by simp [sumI], by omega⟩
  rw [h1, h2]
theorem l1_step {y2 b : Bool} {n i v : Int} (hi : 0 ≤ i ∧ i < 3) (hn : 0 ≤ n ∧ n ≤ 1000) (hv : sel3 w.x0 w.x1 w.x2 i = v) :
    calxlaw03_SampleAddsUp_l1 w y2 (b, n, i) = some (if 0 ≤ v ∧ v ≤ 20 then .inl (b, n + v, i + 1) else .inr (.inl (y2, n, i))) := by
  unfold calxlaw03_SampleAddsUp_l1; dsimp only
  rw [if_pos (by simpa using hi.2), guardO_pos hi, hv]
  by_cases h : 0 ≤ v ∧ v ≤ 20
  · have h1 : ¬ v < 0 := by omega
    have h2 : ¬ 20 < v := by omega
    rw [if_pos h, if_neg (by simpa using h1), guardO_pos hi]
    dsimp only [Option.bind_some]
    rw [if_neg (by simpa using h2), guardO_pos hi, w64_id (by omega) (by omega), w64_id (by omega) (by omega)]
  · rw [if_neg h]
    by_cases h1 : v < 0
    · rw [if_pos (by simpa using h1)]
      rfl
    · have h2 : 20 < v := by omega
      rw [if_neg (by simpa using h1), guardO_pos hi]
      dsimp only [Option.bind_some]
      rw [if_pos (by simpa using h2)]
theorem l1_run (y2 : Bool) : (∃ n i, loopO (calxlaw03_SampleAddsUp_l1 w y2) (false, 0, 0) = some (.inl (y2, n, i))) ∨
    ((0 ≤ w.x0 ∧ w.x0 ≤ 20) ∧ (0 ≤ w.x1 ∧ w.x1 ≤ 20) ∧ (0 ≤ w.x2 ∧ w.x2 ≤ 20) ∧ loopO (calxlaw03_SampleAddsUp_l1 w y2) (false, 0, 0) = some (.inr (false, w.x0 + w.x1 + w.x2, 3))) := by
  have e0 := l1_step (w := w) (y2 := y2) (b := false) (n := 0) (i := 0) (v := w.x0) (by decide) (by decide) rfl
  by_cases h0 : 0 ≤ w.x0 ∧ w.x0 ≤ 20
  · rw [if_pos h0] at e0
    have e1 := l1_step (w := w) (y2 := y2) (b := false) (n := 0 + w.x0) (i := 0 + 1) (v := w.x1) (by decide) (by omega) rfl
    by_cases h1 : 0 ≤ w.x1 ∧ w.x1 ≤ 20
    · rw [if_pos h1] at e1
      have e2 := l1_step (w := w) (y2 := y2) (b := false) (n := 0 + w.x0 + w.x1) (i := 0 + 1 + 1) (v := w.x2) (by decide) (by omega) rfl
      by_cases h2 : 0 ≤ w.x2 ∧ w.x2 ≤ 20
      · rw [if_pos h2] at e2
        right
        refine ⟨h0, h1, h2, ?_⟩
        have e3 : calxlaw03_SampleAddsUp_l1 w y2 (false, 0 + w.x0 + w.x1 + w.x2, 0 + 1 + 1 + 1) = some (.inr (.inr (false, w.x0 + w.x1 + w.x2, 3))) := by
          unfold calxlaw03_SampleAddsUp_l1; dsimp only
          rw [if_neg (by simp), Int.zero_add]
          rfl
        rw [loopO_next e0, loopO_next e1, loopO_next e2, loopO_stop e3]
      · rw [if_neg h2] at e2
        exact .inl ⟨_, _, by rw [loopO_next e0, loopO_next e1, loopO_stop e2]⟩
    · rw [if_neg h1] at e1
      exact .inl ⟨_, _, by rw [loopO_next e0, loopO_stop e1]⟩
  · rw [if_neg h0] at e0
    exact .inl ⟨_, _, loopO_stop e0⟩
theorem Choose_spec {n k : Int} (h0 : 0 ≤ n) (h1 : n ≤ 50) (h2 : 0 ≤ k) (h3 : k ≤ 51) : sample_Choose n k = some ((binom n.toNat k.toNat : Int), 0) := by
  unfold sample_Choose sample_within
  have e1 : decide (0 ≤ n) = true := decide_eq_true h0
  have e2 : decide (n ≤ 50) = true := decide_eq_true h1
  have e3 : decide (k < 0) = false := decide_eq_false (by omega)
  simp only [e1, e2, e3, Option.bind_some, Bool.and_self, Bool.not_true, Bool.or_self, Bool.false_eq_true, if_false, choose_spec h0 h1 h2 h3]
theorem binom_symm : ∀ (n k : Nat), k ≤ n → binom n (n - k) = binom n k
  | 0, k, h => by
    have : k = 0 := by omega
    subst this; rfl
  | n + 1, 0, _ => by
    rw [Nat.sub_zero, binom_zero, binom_succ, binom_far n (n + 1) (by omega)]
    have := binom_symm n 0 (Nat.zero_le _)
    rw [Nat.sub_zero, binom_zero] at this
    omega
  | n + 1, k + 1, h => by
    by_cases e : k = n
    · subst e
      rw [Nat.sub_self, binom_zero, binom_succ, binom_far k (k + 1) (by omega)]
      have := binom_symm k 0 (Nat.zero_le _)
      rw [Nat.sub_zero, binom_zero] at this
      omega
    · rw [show n + 1 - (k + 1) = (n - (k + 1)) + 1 by omega, binom_succ, binom_succ, binom_symm n (k + 1) (by omega), show n - (k + 1) + 1 = n - k by omega, binom_symm n k (by omega)]
      omega
theorem binom_pos : ∀ (n k : Nat), k ≤ n → 1 ≤ binom n k
  | 0, k, h => by
    have : k = 0 := by omega
    subst this; decide
  | n + 1, 0, _ => by rw [binom_zero]; omega
  | n + 1, k + 1, h => by
    have := binom_pos n k (by omega)
    rw [binom_succ]
    omega
theorem SampleAddsUp_true (w : TKinds) (p : Int) (_ : TKinds_rg w) (_ : Rg_i64 p) : calxlaw03_SampleAddsUp w p = some true := by
  unfold calxlaw03_SampleAddsUp
  rw [head_true]
  dsimp only [Option.bind_some]
  rcases l1_run (w := w) true with ⟨n, i, h⟩ | ⟨⟨a0, a1⟩, ⟨b0, b1⟩, ⟨c0, c1⟩, h⟩
  · rw [h]
    rfl
  · rw [h]
    dsimp only [Option.bind_some]
    by_cases hc : w.x0 + w.x1 + w.x2 < 1 ∨ 20 < w.x0 + w.x1 + w.x2 ∨ p < 0 ∨ w.x0 + w.x1 + w.x2 < p
    · rw [if_pos (by simp; omega)]
    · rw [if_neg (by simp; omega)]
      have hp : w64 (w.x0 + w.x1 + w.x2 - p) = w.x0 + w.x1 + w.x2 - p := w64_id (by omega) (by omega)
      rw [hp, Choose_spec (by omega) (by omega) (by omega) (by omega), Choose_spec (by omega) (by omega) (by omega) (by omega)]
      dsimp only [Option.bind_some]
      rw [l2_run a0 b0 c0 (by omega) (by omega) (by omega) (by omega) false p.toNat (by omega)]
      dsimp only [Option.bind_some]
      rw [sum_all]
      have e1 : w.x0.toNat + w.x1.toNat + w.x2.toNat = (w.x0 + w.x1 + w.x2).toNat := by omega
      have e2 : (w.x0 + w.x1 + w.x2 - p).toNat = (w.x0 + w.x1 + w.x2).toNat - p.toNat := by omega
      rw [e1, e2, binom_symm _ _ (by omega)]
      have h3 := binom_pos (w.x0 + w.x1 + w.x2).toNat p.toNat (by omega)
      have h4 : decide ((1 : Int) ≤ (binom (w.x0 + w.x1 + w.x2).toNat p.toNat : Int)) = true := decide_eq_true (by omega)
      simp [h4]
end
end Go.Proofs.Ytepfgdfahinpkaa
