/- Plain laws of sample: ways, the sum of all weights, what weights computes, ratio. No program in sight. -/
import Derived.Test.YtepfgdfahinpkaaN7
namespace Go.Proofs.Ytepfgdfahinpkaa

theorem choose_eq {n k : Int} (h0 : 0 ≤ n) (h1 : n ≤ 50) (h2 : 0 ≤ k) : sample_choose n k = some (binom n.toNat k.toNat : Int) := by
  by_cases h : k ≤ 51
  · exact choose_spec h0 h1 h2 h
  · rw [choose_far (by omega), binom_far _ _ (by omega)]
    rfl
/-- In how many ways a whole has a sample. -/
def wtN (s k : TKinds) : Nat := binom k.x0.toNat s.x0.toNat * binom k.x1.toNat s.x1.toNat * binom k.x2.toNat s.x2.toNat
theorem wtN_le {s k : TKinds} (h : k.x0.toNat + k.x1.toNat + k.x2.toNat ≤ 50) : wtN s k ≤ 1125899906842624 := by
  unfold wtN
  have h1 := Nat.mul_le_mul (Nat.mul_le_mul (binom_le k.x0.toNat s.x0.toNat) (binom_le k.x1.toNat s.x1.toNat)) (binom_le k.x2.toNat s.x2.toNat)
  rw [← Nat.pow_add, ← Nat.pow_add] at h1
  exact Nat.le_trans h1 (Nat.pow_le_pow_right (n := 2) (by decide) h)
theorem ways_eq {w s : TKinds} (a : 0 ≤ w.x0 ∧ 0 ≤ w.x1 ∧ 0 ≤ w.x2) (hs : w.x0 + w.x1 + w.x2 ≤ 50) (b : 0 ≤ s.x0 ∧ 0 ≤ s.x1 ∧ 0 ≤ s.x2) : sample_ways w s = some (wtN s w : Int) := by
  have hle := wtN_le (s := s) (k := w) (by omega)
  have e0 := choose_eq (n := w.x0) (k := s.x0) a.1 (by omega) b.1
  have e1 := choose_eq (n := w.x1) (k := s.x1) a.2.1 (by omega) b.2.1
  have e2 := choose_eq (n := w.x2) (k := s.x2) a.2.2 (by omega) b.2.2
  unfold wtN at hle ⊢
  have b0 := binom_le w.x0.toNat s.x0.toNat
  have b01 := Nat.mul_le_mul (binom_le w.x0.toNat s.x0.toNat) (binom_le w.x1.toNat s.x1.toNat)
  have p0 : 2 ^ w.x0.toNat ≤ 2 ^ 50 := Nat.pow_le_pow_right (by decide) (by omega)
  have p1 : 2 ^ w.x0.toNat * 2 ^ w.x1.toNat ≤ 2 ^ 50 := by rw [← Nat.pow_add]; exact Nat.pow_le_pow_right (by decide) (by omega)
  generalize binom w.x0.toNat s.x0.toNat = A at *
  generalize binom w.x1.toNat s.x1.toNat = B at *
  generalize binom w.x2.toNat s.x2.toNat = C at *
  have q0 : A ≤ 1125899906842624 := Nat.le_trans b0 p0
  have q1 : A * B ≤ 1125899906842624 := Nat.le_trans b01 p1
  have s1 : sample_ways_l1 w s (1, 0) = some (.inl ((A : Int), 1)) := by
    unfold sample_ways_l1; dsimp only
    rw [if_pos (by simp), guardO_pos (by decide), guardO_pos (by decide)]
    show (sample_choose w.x0 s.x0).bind _ = _
    rw [e0]
    show some (Sum.inl (w64 (1 * (A : Int)), w64 (0 + 1))) = _
    rw [Int.one_mul, w64_id (by omega) (by omega)]
    rfl
  have s2 : sample_ways_l1 w s ((A : Int), 1) = some (.inl (((A * B : Nat) : Int), 2)) := by
    unfold sample_ways_l1; dsimp only
    rw [if_pos (by simp), guardO_pos (by decide), guardO_pos (by decide)]
    show (sample_choose w.x1 s.x1).bind _ = _
    rw [e1]
    show some (Sum.inl (w64 ((A : Int) * (B : Int)), w64 (1 + 1))) = _
    rw [← Int.natCast_mul, w64_id (by omega) (by omega)]
    rfl
  have s3 : sample_ways_l1 w s (((A * B : Nat) : Int), 2) = some (.inl (((A * B * C : Nat) : Int), 3)) := by
    unfold sample_ways_l1; dsimp only
    rw [if_pos (by simp), guardO_pos (by decide), guardO_pos (by decide)]
    show (sample_choose w.x2 s.x2).bind _ = _
    rw [e2]
    show some (Sum.inl (w64 (((A * B : Nat) : Int) * (C : Int)), w64 (2 + 1))) = _
    rw [← Int.natCast_mul, w64_id (by omega) (by omega)]
    rfl
  have s4 : sample_ways_l1 w s (((A * B * C : Nat) : Int), 3) = some (.inr (((A * B * C : Nat) : Int), 3)) := by
    unfold sample_ways_l1; dsimp only
    rw [if_neg (by simp)]
  unfold sample_ways
  rw [loopO_next s1, loopO_next s2, loopO_next s3, loopO_stop s4]
  rfl

/-! ### All weights together -/
theorem sum_map_le {α : Type} {f g : α → Nat} : ∀ (l : List α), (∀ x ∈ l, f x ≤ g x) → (l.map f).sum ≤ (l.map g).sum
  | [], _ => by simp
  | x :: l, h => by
    have := sum_map_le l (fun y hy => h y (List.mem_cons_of_mem _ hy))
    have := h x (List.mem_cons_self ..)
    simp only [List.map_cons, List.sum_cons]
    omega
theorem sum_filter_le {α : Type} (f : α → Nat) (p : α → Bool) : ∀ (l : List α), ((l.filter p).map f).sum ≤ (l.map f).sum
  | [] => by simp
  | x :: l => by
    have := sum_filter_le f p l
    by_cases h : p x = true
    · rw [List.filter_cons_of_pos h]
      simp only [List.map_cons, List.sum_cons]
      omega
    · rw [List.filter_cons_of_neg h]
      simp only [List.map_cons, List.sum_cons]
      omega
theorem sum_flatMap {α β : Type} (f : β → Nat) (g : α → List β) : ∀ (l : List α), ((l.flatMap g).map f).sum = (l.map fun x => ((g x).map f).sum).sum
  | [] => rfl
  | x :: l => by
    rw [List.flatMap_cons, List.map_append, List.sum_append_nat, sum_flatMap f g l]
    rfl
/-- Of x things, and of the rest of n. -/
def two (n a b : Nat) : Nat := ((List.range (n + 1)).map fun x => binom x a * binom (n - x) b).sum
theorem two_last (n a b : Nat) : two n a b = ((List.range n).map fun x => binom x a * binom (n - x) b).sum + binom n a * binom 0 b := by
  unfold two
  rw [List.range_succ, List.map_append, List.sum_append_nat]
  simp
theorem hockey (a : Nat) : ∀ n, ((List.range (n + 1)).map fun x => binom x a).sum = binom (n + 1) (a + 1)
  | 0 => by
    rw [binom_succ, binom_far 0 (a + 1) (by omega)]
    simp
  | n + 1 => by
    rw [List.range_succ, List.map_append, List.sum_append_nat, hockey a n, binom_succ (n + 1) a]
    simp
    omega
theorem two_eq (a : Nat) : ∀ (n b : Nat), two n a b = binom (n + 1) (a + b + 1)
  | n, 0 => by
    rw [← hockey a n]
    unfold two
    congr 1
    apply List.map_congr_left
    intro x _
    rw [binom_zero, Nat.mul_one]
  | 0, b + 1 => by
    unfold two
    rw [binom_far 1 _ (by omega)]
    simp [binom_far 0 (b + 1) (by omega)]
  | n + 1, b + 1 => by
    have h1 := two_eq a n b
    have h2 := two_eq a n (b + 1)
    rw [two_last, binom_far 0 (b + 1) (by omega), Nat.mul_zero, Nat.add_zero, show a + (b + 1) + 1 = (a + b + 1) + 1 by omega, binom_succ (n + 1), ← h1, show a + b + 1 + 1 = a + (b + 1) + 1 by omega, ← h2]
    unfold two
    rw [← sum_add]
    congr 1
    apply List.map_congr_left
    intro x hx
    have := List.mem_range.1 hx
    rw [show n + 1 - x = (n - x) + 1 by omega, binom_succ, Nat.mul_add]
theorem three_eq (N a b c : Nat) : ((List.range (N + 1)).map fun x => ((List.range (N + 1 - x)).map fun y => binom x a * binom y b * binom (N - x - y) c).sum).sum = binom (N + 2) (a + b + c + 2) := by
  have h := two_eq a (N + 1) (b + c + 1)
  rw [two_last, binom_far 0 _ (by omega), Nat.mul_zero, Nat.add_zero] at h
  rw [show a + b + c + 2 = a + (b + c + 1) + 1 by omega, show N + 2 = N + 1 + 1 by omega, ← h]
  congr 1
  apply List.map_congr_left
  intro x hx
  have := List.mem_range.1 hx
  rw [show N + 1 - x = (N - x) + 1 by omega, ← two_eq b (N - x) c]
  unfold two
  have sc : ∀ (l : List Nat) (f : Nat → Nat) (z : Nat), z * (l.map f).sum = (l.map fun j => z * f j).sum := by
    intro l f z
    induction l with
    | nil => simp
    | cons y l ih => simp [Nat.mul_add, ih]
  rw [sc]
  congr 1
  apply List.map_congr_left
  intro y _
  rw [Nat.mul_assoc]
theorem binom_mono : ∀ (n k : Nat), binom n k ≤ binom (n + 1) k
  | n, 0 => by rw [binom_zero, binom_zero]; omega
  | n, k + 1 => by rw [binom_succ]; omega
theorem binom_mono' {n : Nat} (k : Nat) : ∀ m, n ≤ m → binom n k ≤ binom m k := fun m h => by
  induction m with
  | zero => rw [show n = 0 by omega]; exact Nat.le_refl _
  | succ m ih =>
    by_cases e : n = m + 1
    · rw [e]; exact Nat.le_refl _
    · exact Nat.le_trans (ih (by omega)) (binom_mono m k)
theorem binom52 (k : Nat) : binom 52 k ≤ 495918532948104 := by
  by_cases h : k ≤ 52
  · have hc : ((List.range 53).all fun k => decide (binom 52 k ≤ 495918532948104)) = true := by kernel_rfl
    exact of_decide_eq_true (List.all_eq_true.1 hc k (List.mem_range.2 (by omega)))
  · rw [binom_far _ _ (by omega)]; omega
def totN (b : TBatch) : Nat := ((wl b).map (wtN b.fSeen)).sum
theorem totN_le {b : TBatch} (hb : sample_okB b) : totN b ≤ 495918532948104 := by
  unfold sample_okB at hb
  have h3 := three_eq b.fBarrows.toNat b.fSeen.x0.toNat b.fSeen.x1.toNat b.fSeen.x2.toNat
  have h4 := binom_mono' (n := b.fBarrows.toNat + 2) (b.fSeen.x0.toNat + b.fSeen.x1.toNat + b.fSeen.x2.toNat + 2) 52 (by omega)
  have h5 := binom52 (b.fSeen.x0.toNat + b.fSeen.x1.toNat + b.fSeen.x2.toNat + 2)
  unfold totN wl wX
  rw [sum_flatMap]
  refine Nat.le_trans (sum_map_le _ (fun x hx => ?_)) (Nat.le_trans (Nat.le_of_eq h3) (Nat.le_trans h4 h5))
  unfold wY
  refine Nat.le_trans (sum_filter_le _ _ _) ?_
  rw [List.map_map]
  refine sum_map_le _ (fun y hy => ?_)
  unfold wtN mkK
  dsimp only [Function.comp]
  rw [show ((x : Int)).toNat = x by omega, show ((y : Int)).toNat = y by omega, show (b.fBarrows - (x : Int) - (y : Int)).toNat = b.fBarrows.toNat - x - y by omega]
  exact Nat.le_refl _

/-! ### Weights -/
/-- The weight of a number of a sort, of some wholes. -/
def wsN (sn : TKinds) (s : Int) (l : List TKinds) (m : Int) : Nat := ((l.filter fun k => decide (kv s k = m)).map (wtN sn)).sum
theorem wsN_snoc (sn : TKinds) (s : Int) (l : List TKinds) (k : TKinds) (m : Int) : wsN sn s (l ++ [k]) m = wsN sn s l m + if kv s k = m then wtN sn k else 0 := by
  unfold wsN
  rw [List.filter_append, List.map_append, List.sum_append_nat]
  by_cases h : kv s k = m
  · simp [h]
  · simp [h]
theorem wsN_le (sn : TKinds) (s : Int) (l : List TKinds) (m : Int) : wsN sn s l m ≤ (l.map (wtN sn)).sum := sum_filter_le _ _ _
def WtS (b : TBatch) (s : Int) : List Int := (List.range (b.fBarrows.toNat + 1)).map fun m : Nat => (wsN b.fSeen s (wl b) (m : Int) : Int)
theorem WtS_len (b : TBatch) (s : Int) : (WtS b s).length = b.fBarrows.toNat + 1 := by simp [WtS]
theorem mget_cons (m : List (Int × Int)) (k v x : Int) : mget ((k, v) :: m) x = if k = x then v else mget m x := rfl
theorem weights_r1_run {b : TBatch} (hb : sample_okB b) {s : Int} (hs : 0 ≤ s ∧ s ≤ 2) : ∃ m, foldO (sample_weights_r1 b s) (wl b) [] = some (.inl m) ∧ ∀ v, mget m v = (wsN b.fSeen s (wl b) v : Int) := by
  have hb' := hb
  unfold sample_okB at hb'
  have hlen := wl_len_le b (by omega)
  have htot := totN_le hb
  have key : ∀ (r l : List TKinds) (m : List (Int × Int)), wl b = l ++ r → m.length + r.length ≤ 3000 → (∀ v, mget m v = (wsN b.fSeen s l v : Int)) → ∃ m', foldO (sample_weights_r1 b s) r m = some (.inl m') ∧ ∀ v, mget m' v = (wsN b.fSeen s (l ++ r) v : Int) := by
    intro r
    induction r with
    | nil => intro l m _ _ hm; exact ⟨m, rfl, by rw [List.append_nil]; exact hm⟩
    | cons k r ih =>
      intro l m he hl hm
      have hk : k ∈ wl b := by rw [he]; simp
      have hkm := mem_wl hk (by omega)
      have hkv := kv_mem hk (by omega) (s := s) (by omega)
      have hsum : wsN b.fSeen s (l ++ [k]) (kv s k) ≤ totN b := by
        unfold totN
        rw [he, show l ++ k :: r = (l ++ [k]) ++ r by simp, List.map_append, List.sum_append_nat]
        have := wsN_le b.fSeen s (l ++ [k]) (kv s k)
        omega
      rw [wsN_snoc, if_pos rfl] at hsum
      rw [List.length_cons] at hl
      have e : sel3 k.x0 k.x1 k.x2 s = kv s k := rfl
      have hr : ∀ x : Int, -9223372036854775808 ≤ x → x ≤ 9223372036854775807 → rngB x = true := fun x h1 h2 => by
        unfold rngB
        rw [decide_eq_true h1, decide_eq_true h2]; rfl
      unfold foldO sample_weights_r1
      rw [guardO_pos (by omega), e, guardO_pos (hr _ (by omega) (by omega)), ways_eq hkm.2.1 (by omega) (by omega)]
      dsimp only [Option.bind_some]
      rw [hm, w64_id (by omega) (by omega), guardO_pos ⟨hr _ (by omega) (by omega), hr _ (by omega) (by omega), by omega⟩]
      dsimp only
      obtain ⟨m', h1, h2⟩ := ih (l ++ [k]) ((kv s k, (wsN b.fSeen s l (kv s k) : Int) + (wtN b.fSeen k : Int)) :: m) (by rw [he]; simp) (by rw [List.length_cons]; omega) (fun v => by
        rw [mget_cons, wsN_snoc]
        by_cases hv : kv s k = v
        · rw [if_pos hv, if_pos hv, ← hv]; rfl
        · rw [if_neg hv, if_neg hv, hm]; rfl)
      refine ⟨m', h1, ?_⟩
      rw [show l ++ k :: r = (l ++ [k]) ++ r by simp]
      exact h2
  obtain ⟨m, h1, h2⟩ := key (wl b) [] [] rfl (by simpa using hlen) (fun v => rfl)
  exact ⟨m, h1, h2⟩
theorem weights_l2_run {b : TBatch} (hN : 1 ≤ b.fBarrows ∧ b.fBarrows ≤ 50) {s : Int} (m : List (Int × Int)) (hm : ∀ v, mget m v = (wsN b.fSeen s (wl b) v : Int)) :
    loopO (sample_weights_l2 b m) (0, List.replicate (Int.toNat (w64 (b.fBarrows + 1))) 0) = some (((b.fBarrows.toNat + 1 : Nat) : Int), WtS b s) := by
  have hw : Int.toNat (w64 (b.fBarrows + 1)) = b.fBarrows.toNat + 1 := by rw [w64_id (by omega) (by omega)]; omega
  rw [hw]
  have := loop_run (body := sample_weights_l2 b m) (fun k => ((k : Int), ((List.range k).map fun m : Nat => (wsN b.fSeen s (wl b) (m : Int) : Int)) ++ List.replicate (b.fBarrows.toNat + 1 - k) 0)) (b.fBarrows.toNat + 1) (t := (((b.fBarrows.toNat + 1 : Nat) : Int), WtS b s)) (fun k hk => by
    unfold sample_weights_l2; dsimp only
    have hr : rngB (k : Int) = true := by
      unfold rngB
      rw [decide_eq_true (show (-9223372036854775808 : Int) ≤ (k : Int) by omega), decide_eq_true (show (k : Int) ≤ 9223372036854775807 by omega)]; rfl
    rw [hw, ite_t (by omega), guardO_pos hr, guardO_pos (by omega), w64_succ (by omega), hm, Int.toNat_natCast]
    congr 3
    rw [List.set_append, List.length_map, List.length_range, if_neg (by omega), Nat.sub_self, show b.fBarrows.toNat + 1 - k = (b.fBarrows.toNat + 1 - (k + 1)) + 1 by omega, List.replicate_succ, List.set_cons_zero, List.range_succ, List.map_append, List.append_assoc]
    rfl) (by
    unfold sample_weights_l2; dsimp only
    rw [hw, ite_f (by omega), Nat.sub_self, List.replicate_zero, List.append_nil]
    rfl)
  exact this
theorem weights_eq {b : TBatch} (hb : sample_okB b) {s : Int} (hs : 0 ≤ s ∧ s ≤ 2) : sample_weights b s = some (WtS b s) := by
  have hb' := hb
  unfold sample_okB at hb'
  obtain ⟨m, h1, h2⟩ := weights_r1_run hb hs
  unfold sample_weights
  simp only [sample_wholes, Option.bind_some]
  rw [guardO_pos hb, wh_eq hb, h1]
  dsimp only [Option.bind_some]
  rw [guardO_pos (by rw [w64_id (by omega) (by omega)]; omega), weights_l2_run (by omega) m h2]
  rfl
theorem Weights_spec (b : TBatch) (s : Int) : sample_Weights b s = some (if SortS b s = 0 then WtS b s else [], SortS b s) := by
  unfold sample_Weights
  rw [sorted_spec, bnd rfl]
  by_cases h : SortS b s = 0
  · rw [if_pos h, h, weights_eq (Check_okB (Sort_0.1 h).1) (Sort_0.1 h).2]
    rfl
  · rw [if_neg h, if_pos (by simpa using h)]
end Go.Proofs.Ytepfgdfahinpkaa
