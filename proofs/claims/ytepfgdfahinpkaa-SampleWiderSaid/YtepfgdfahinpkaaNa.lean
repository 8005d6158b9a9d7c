/- Plain laws of sample: sums of weights, fractions, Mean and Next; what SampleMeans' plain function says is true. No program in sight. -/
import Derived.Test.YtepfgdfahinpkaaN9
import Derived.Test.YtepfgdfahinpkaaN3
set_option linter.unusedVariables false
namespace Go.Proofs.Ytepfgdfahinpkaa

/-! ### Sums -/
def rs (n : Nat) (g : Nat → Int) : Int := ((List.range n).map g).sum
theorem rs_0 (g : Nat → Int) : rs 0 g = 0 := rfl
theorem rs_succ (n : Nat) (g : Nat → Int) : rs (n + 1) g = rs n g + g n := by
  unfold rs
  rw [List.range_succ, List.map_append, List.sum_append_int]
  simp
theorem rs_add (g h : Nat → Int) : ∀ n, rs n (fun i => g i + h i) = rs n g + rs n h
  | 0 => rfl
  | n + 1 => by rw [rs_succ, rs_succ, rs_succ, rs_add g h n]; omega
theorem rs_congr {g h : Nat → Int} : ∀ n, (∀ i, i < n → g i = h i) → rs n g = rs n h
  | 0, _ => rfl
  | n + 1, e => by rw [rs_succ, rs_succ, rs_congr n (fun i hi => e i (by omega)), e n (by omega)]
theorem rs_le {g h : Nat → Int} : ∀ n, (∀ i, i < n → g i ≤ h i) → rs n g ≤ rs n h
  | 0, _ => Int.le_refl _
  | n + 1, e => by
    have := rs_le n (fun i hi => e i (by omega))
    have := e n (by omega)
    rw [rs_succ, rs_succ]; omega
theorem rs_scale (c : Int) (g : Nat → Int) : ∀ n, rs n (fun i => c * g i) = c * rs n g
  | 0 => by simp [rs]
  | n + 1 => by rw [rs_succ, rs_succ, rs_scale c g n, Int.mul_add]
theorem rs_pick (v : Int) (c : Nat → Int) : ∀ n, rs n (fun i => if v = (i : Int) then c i else 0) = if 0 ≤ v ∧ v < n then c v.toNat else 0
  | 0 => by rw [if_neg (by omega)]; rfl
  | n + 1 => by
    rw [rs_succ, rs_pick v c n]
    by_cases h : v = (n : Int)
    · rw [if_pos h, if_neg (by omega), if_pos (by omega), h]
      simp
    · rw [if_neg h]
      by_cases h' : 0 ≤ v ∧ v < n
      · rw [if_pos h', if_pos (by omega)]; omega
      · rw [if_neg h', if_neg (by omega)]; rfl
/-- The sum of the wholes' ways, each times what its number of a sort is worth. -/
def ks (sn : TKinds) (s : Int) (f : Int → Int) (l : List TKinds) : Int := (l.map fun k => f (kv s k) * (wtN sn k : Int)).sum
theorem ks_cons (sn : TKinds) (s : Int) (f : Int → Int) (k : TKinds) (l : List TKinds) : ks sn s f (k :: l) = f (kv s k) * (wtN sn k : Int) + ks sn s f l := by simp [ks]
theorem ws_ks (sn : TKinds) (s : Int) (f : Int → Int) (n : Nat) : ∀ (l : List TKinds), (∀ k ∈ l, 0 ≤ kv s k ∧ kv s k < n) → rs n (fun m => f (m : Int) * (wsN sn s l (m : Int) : Int)) = ks sn s f l
  | [], _ => by
    have : ∀ m : Nat, f (m : Int) * (wsN sn s [] (m : Int) : Int) = 0 := fun m => by simp [wsN]
    rw [rs_congr (h := fun _ => 0) n (fun i _ => this i)]
    induction n with
    | zero => rfl
    | succ n ih => rw [rs_succ, ih (fun q hq => by cases hq)]; rfl
  | k :: l, h => by
    have ih := ws_ks sn s f n l (fun q hq => h q (List.mem_cons_of_mem _ hq))
    have hk := h k (List.mem_cons_self ..)
    have e : ∀ m : Nat, f (m : Int) * (wsN sn s (k :: l) (m : Int) : Int) = f (m : Int) * (wsN sn s l (m : Int) : Int) + (if kv s k = (m : Int) then f (m : Int) * (wtN sn k : Int) else 0) := fun m => by
      unfold wsN
      by_cases hm : kv s k = (m : Int)
      · rw [List.filter_cons_of_pos (by simpa using hm), if_pos hm]
        simp only [List.map_cons, List.sum_cons]
        rw [Int.natCast_add, Int.mul_add]; omega
      · rw [List.filter_cons_of_neg (by simpa using hm), if_neg hm]; omega
    rw [rs_congr n (fun i _ => e i), rs_add, ih, rs_pick, if_pos hk, ks_cons, Int.toNat_of_nonneg hk.1]
    omega
/-- All weights together; each number times its weight. -/
def momI (b : TBatch) (s : Int) : Int := ks b.fSeen s (fun m => m) (wl b)
theorem tot_ks (b : TBatch) (s : Int) : ks b.fSeen s (fun _ => 1) (wl b) = (totN b : Int) := by
  unfold ks totN
  generalize wl b = l
  induction l with
  | nil => rfl
  | cons k l ih =>
    simp only [List.map_cons, List.sum_cons, Int.natCast_add] at ih ⊢
    rw [ih]; omega
theorem WtS_get (b : TBatch) (s : Int) {i : Nat} (h : i < b.fBarrows.toNat + 1) : (WtS b s).getD i 0 = (wsN b.fSeen s (wl b) (i : Int) : Int) := by
  unfold WtS
  rw [List.getD_eq_getElem?_getD, List.getElem?_map, List.getElem?_range h]
  rfl
theorem WtS_sum {b : TBatch} (h : CheckS b = 0) {s : Int} (hs : 0 ≤ s ∧ s ≤ 2) : rs (b.fBarrows.toNat + 1) (fun i => (WtS b s).getD i 0) = (totN b : Int) := by
  have hb := Check_bd h
  rw [rs_congr (h := fun m => 1 * (wsN b.fSeen s (wl b) (m : Int) : Int)) _ (fun i hi => by rw [WtS_get b s hi]; omega), ← tot_ks b s]
  exact ws_ks b.fSeen s (fun _ => 1) _ (wl b) (fun k hk => by have := kv_mem hk (by omega) (s := s) (by omega); omega)
theorem WtS_mom {b : TBatch} (h : CheckS b = 0) {s : Int} (hs : 0 ≤ s ∧ s ≤ 2) : rs (b.fBarrows.toNat + 1) (fun i => (i : Int) * (WtS b s).getD i 0) = momI b s := by
  have hb := Check_bd h
  rw [rs_congr (h := fun m => (m : Int) * (wsN b.fSeen s (wl b) (m : Int) : Int)) _ (fun i hi => by rw [WtS_get b s hi])]
  exact ws_ks b.fSeen s (fun m => m) _ (wl b) (fun k hk => by have := kv_mem hk (by omega) (s := s) (by omega); omega)
theorem ks_le (sn : TKinds) (s : Int) {f g : Int → Int} : ∀ (l : List TKinds), (∀ k ∈ l, f (kv s k) ≤ g (kv s k)) → ks sn s f l ≤ ks sn s g l
  | [], _ => Int.le_refl _
  | k :: l, h => by
    have h1 := ks_le sn s l (fun q hq => h q (List.mem_cons_of_mem _ hq))
    have h2 := Int.mul_le_mul_of_nonneg_right (h k (List.mem_cons_self ..)) (show (0 : Int) ≤ (wtN sn k : Int) by omega)
    rw [ks_cons, ks_cons]; omega
theorem ks_const (b : TBatch) (s c : Int) : ks b.fSeen s (fun _ => c) (wl b) = c * (totN b : Int) := by
  rw [← tot_ks b s]
  generalize wl b = l
  induction l with
  | nil => simp [ks]
  | cons k l ih => rw [ks_cons, ks_cons, ih, Int.mul_add, Int.one_mul]
theorem mom_ends {b : TBatch} (h : CheckS b = 0) {s : Int} (hs : 0 ≤ s ∧ s ≤ 2) : (EndsS b s).fLo * (totN b : Int) ≤ momI b s ∧ momI b s ≤ (EndsS b s).fHi * (totN b : Int) := by
  obtain ⟨_, _, ha⟩ := Ends_is h hs
  rw [← ks_const b s, ← ks_const b s]
  exact ⟨ks_le _ _ _ (fun k hk => (ha k hk).1), ks_le _ _ _ (fun k hk => (ha k hk).2)⟩
theorem mom_seen {b : TBatch} (h : CheckS b = 0) {s : Int} (hs : 0 ≤ s ∧ s ≤ 2) : sel3 b.fSeen.x0 b.fSeen.x1 b.fSeen.x2 s * (totN b : Int) ≤ momI b s := by
  have hb := Check_bd h
  rw [← ks_const b s]
  refine ks_le _ _ _ (fun k hk => ?_)
  have h1 := (mem_wl hk (by omega)).1
  unfold OkK at h1
  have h3 : s = 0 ∨ s = 1 ∨ s = 2 := by omega
  unfold kv
  rcases h3 with rfl | rfl | rfl <;> simp only [sel3_0, sel3_1, sel3_2] <;> omega
theorem mom_all {b : TBatch} (h : CheckS b = 0) : momI b 0 + momI b 1 + momI b 2 = b.fBarrows * (totN b : Int) := by
  have hb := Check_bd h
  have key : ∀ (l : List TKinds), (∀ k ∈ l, k.x0 + k.x1 + k.x2 = b.fBarrows) → ks b.fSeen 0 (fun m => m) l + ks b.fSeen 1 (fun m => m) l + ks b.fSeen 2 (fun m => m) l = ks b.fSeen 0 (fun _ => b.fBarrows) l := by
    intro l
    induction l with
    | nil => intro _; rfl
    | cons k l ih =>
      intro hl
      have h1 := ih (fun q hq => hl q (List.mem_cons_of_mem _ hq))
      have h2 := hl k (List.mem_cons_self ..)
      rw [ks_cons, ks_cons, ks_cons, ks_cons, ← h1, ← h2]
      have e0 : kv 0 k = k.x0 := rfl
      have e1 : kv 1 k = k.x1 := rfl
      have e2 : kv 2 k = k.x2 := rfl
      rw [e0, e1, e2, Int.add_mul, Int.add_mul]
      omega
  unfold momI
  rw [key (wl b) (fun k hk => (mem_wl hk (by omega)).2.2), ks_const]
theorem tot_pos {b : TBatch} (h : CheckS b = 0) : 1 ≤ totN b := by
  have hb := Check_bd h
  have hne := (Check_0.1 h).2.2
  obtain ⟨k, hk⟩ : ∃ k, k ∈ wl b := by
    cases hw : wl b with
    | nil => exact absurd hw hne
    | cons k l => exact ⟨k, List.mem_cons_self ..⟩
  have h1 := mem_wl hk (by omega)
  have h2 := h1.1
  unfold OkK at h2
  have hw : 1 ≤ wtN b.fSeen k := by
    unfold wtN
    have p0 := binom_pos k.x0.toNat b.fSeen.x0.toNat (by omega)
    have p1 := binom_pos k.x1.toNat b.fSeen.x1.toNat (by omega)
    have p2 := binom_pos k.x2.toNat b.fSeen.x2.toNat (by omega)
    exact Nat.mul_pos (Nat.mul_pos p0 p1) p2
  have : ∀ (l : List TKinds), k ∈ l → wtN b.fSeen k ≤ (l.map (wtN b.fSeen)).sum := by
    intro l
    induction l with
    | nil => intro hl; cases hl
    | cons q l ih =>
      intro hl
      simp only [List.map_cons, List.sum_cons]
      rcases List.mem_cons.1 hl with rfl | hl
      · omega
      · have := ih hl; omega
  have := this (wl b) hk
  unfold totN
  omega
theorem WtS_nn (b : TBatch) (s : Int) : ∀ x ∈ WtS b s, 0 ≤ x := fun x hx => by
  unfold WtS at hx
  obtain ⟨m, _, rfl⟩ := List.mem_map.1 hx
  omega

/-! ### Lists of weights -/
/-- Numbers from 0 on, of which the sum is not great. -/
def Gd (w : List Int) : Prop := w.length ≤ 51 ∧ (∀ x ∈ w, 0 ≤ x) ∧ w.sum ≤ 495918532948104
theorem sum_nn : ∀ {l : List Int}, (∀ x ∈ l, 0 ≤ x) → 0 ≤ l.sum
  | [], _ => by simp
  | x :: l, h => by
    have := sum_nn (fun y hy => h y (List.mem_cons_of_mem _ hy))
    have := h x (List.mem_cons_self ..)
    rw [List.sum_cons]; omega
theorem take_sum_le {l : List Int} (h : ∀ x ∈ l, 0 ≤ x) (k : Nat) : (l.take k).sum ≤ l.sum := by
  have h1 : l.sum = (l.take k).sum + (l.drop k).sum := by rw [← List.sum_append_int, List.take_append_drop]
  have := sum_nn (l := l.drop k) (fun x hx => h x (List.mem_of_mem_drop hx))
  omega
theorem take_sum_succ {l : List Int} {k : Nat} (h : k < l.length) : (l.take (k + 1)).sum = (l.take k).sum + l[k] := by
  rw [take_succ h, List.sum_append_int]; simp
theorem take_sum_rs (l : List Int) : ∀ k, k ≤ l.length → (l.take k).sum = rs k (fun i => l.getD i 0)
  | 0, _ => by simp [rs]
  | k + 1, h => by
    rw [take_sum_succ (by omega), rs_succ, take_sum_rs l k (by omega), List.getD_eq_getElem?_getD, List.getElem?_eq_getElem (by omega)]
    rfl
theorem sum_rs (l : List Int) : l.sum = rs l.length (fun i => l.getD i 0) := by
  have := take_sum_rs l l.length (Nat.le_refl _)
  rw [List.take_length] at this
  exact this
theorem WtS_tot {b : TBatch} (h : CheckS b = 0) {s : Int} (hs : 0 ≤ s ∧ s ≤ 2) : (WtS b s).sum = (totN b : Int) := by
  rw [sum_rs, WtS_len, WtS_sum h hs]
theorem WtS_Gd {b : TBatch} (h : CheckS b = 0) {s : Int} (hs : 0 ≤ s ∧ s ≤ 2) : Gd (WtS b s) := by
  have hb := Check_bd h
  have ht := totN_le (Check_okB h)
  refine ⟨by rw [WtS_len]; omega, WtS_nn b s, by rw [WtS_tot h hs]; omega⟩
theorem sum_int_eq {l : List Int} (hl : l.length ≤ 1000) (h0 : ∀ x ∈ l, 0 ≤ x) (h1 : l.sum ≤ 495918532948104) : sample_sum_int l (fun x => sample_own x) = some l.sum := by
  unfold sample_sum_int
  have := loop_run (body := sample_sum_int_l1 l (fun x => sample_own x)) (fun k => ((l.take k).sum, (k : Int))) l.length (t := (l.sum, (l.length : Int))) (fun k hk => by
    have a1 := take_sum_le h0 (k + 1)
    have a2 := sum_nn (l := l.take k) (fun x hx => h0 x (List.mem_of_mem_take hx))
    have a3 := h0 l[k] (List.getElem_mem _)
    rw [take_sum_succ hk] at a1
    unfold sample_sum_int_l1; dsimp only
    rw [ite_t (by omega), guardO_pos (by omega), rdL_nat hk]
    simp only [sample_own, Option.bind_some]
    rw [w64_id (x := (l.take k).sum + l[k]) (by omega) (by omega), w64_succ (by omega), take_sum_succ hk]) (by
    unfold sample_sum_int_l1; dsimp only
    rw [ite_f (by omega), List.take_length])
  have h2 : loopO (sample_sum_int_l1 l (fun x => sample_own x)) (0, 0) = _ := this
  rw [h2]; rfl
def totP (w : List Int) (less : Int) (k : Nat) : Int := rs k fun i => ((i : Int) - less) * w.getD i 0
theorem getD_get {w : List Int} {k : Nat} (h : k < w.length) : w.getD k 0 = w[k] := by
  rw [List.getD_eq_getElem?_getD, List.getElem?_eq_getElem h]; rfl
theorem mul_bd {a c x : Int} (hc : 0 ≤ c) (h1 : -c ≤ a) (h2 : a ≤ c) (hx : 0 ≤ x) : -(c * x) ≤ a * x ∧ a * x ≤ c * x := by
  have e1 := Int.mul_le_mul_of_nonneg_right h1 hx
  have e2 := Int.mul_le_mul_of_nonneg_right h2 hx
  rw [Int.neg_mul] at e1
  exact ⟨e1, e2⟩
theorem totP_bd {w : List Int} (h : Gd w) {less : Int} (hl : 0 ≤ less ∧ less ≤ 51) : ∀ k, k ≤ w.length → -(51 * (w.take k).sum) ≤ totP w less k ∧ totP w less k ≤ 51 * (w.take k).sum
  | 0, _ => by simp [totP, rs]
  | k + 1, hk => by
    have ih := totP_bd h hl k (by omega)
    unfold totP at ih ⊢
    have h3 := h.1
    have h4 := h.2.1 w[k] (List.getElem_mem (by omega))
    have h5 := mul_bd (a := (k : Int) - less) (c := 51) (by decide) (by omega) (by omega) h4
    rw [rs_succ, take_sum_succ (by omega), getD_get (by omega)]
    omega
theorem total_eq {w : List Int} (h : Gd w) {less : Int} (hl : 0 ≤ less ∧ less ≤ 51) : sample_total w less = some (totP w less w.length) := by
  unfold sample_total
  obtain ⟨hlen, h0, hs⟩ := h
  have := loop_run (body := sample_total_l1 w less) (fun k => (totP w less k, (k : Int))) w.length (t := (totP w less w.length, (w.length : Int))) (fun k hk => by
    have b1 := totP_bd ⟨hlen, h0, hs⟩ hl k (by omega)
    have b2 := totP_bd ⟨hlen, h0, hs⟩ hl (k + 1) (by omega)
    have a1 := take_sum_le h0 (k + 1)
    have a2 := take_sum_le h0 k
    have a3 := h0 w[k] (List.getElem_mem _)
    have a4 := mul_bd (a := (k : Int) - less) (c := 51) (by decide) (by omega) (by omega) a3
    have a5 : w[k] ≤ 495918532948104 := by
      have := sum_nn (l := w.take k) (fun x hx => h0 x (List.mem_of_mem_take hx))
      rw [take_sum_succ hk] at a1
      omega
    have e : totP w less (k + 1) = totP w less k + ((k : Int) - less) * w[k] := by unfold totP; rw [rs_succ, getD_get hk]
    unfold sample_total_l1; dsimp only
    rw [ite_t (by omega), guardO_pos (by omega), rdL_nat hk, w64_id (x := (k : Int) - less) (by omega) (by omega), w64_id (x := ((k : Int) - less) * w[k]) (by omega) (by omega), w64_id (x := totP w less k + _) (by omega) (by omega), w64_succ (by omega), e]) (by
    unfold sample_total_l1; dsimp only
    rw [ite_f (by omega)])
  have h2 : loopO (sample_total_l1 w less) (0, 0) = _ := this
  rw [h2]; rfl
theorem totP_WtS {b : TBatch} (h : CheckS b = 0) {s : Int} (hs : 0 ≤ s ∧ s ≤ 2) (less : Int) : totP (WtS b s) less (WtS b s).length = momI b s - less * (totN b : Int) := by
  unfold totP
  rw [WtS_len, rs_congr (h := fun i => (i : Int) * (WtS b s).getD i 0 + (-less) * (WtS b s).getD i 0) _ (fun i _ => by rw [Int.sub_mul, Int.neg_mul]; omega), rs_add, rs_scale, WtS_mom h hs, WtS_sum h hs, Int.neg_mul]
  omega

/-! ### Fractions -/
theorem tdiv_nat (a b : Nat) : Int.tdiv (a : Int) (b : Int) = ((a / b : Nat) : Int) := rfl
theorem tmod_nat (a b : Nat) : Int.tmod (a : Int) (b : Int) = ((a % b : Nat) : Int) := rfl
theorem gcd_run (f : Int × Int → Option ((Int × Int) ⊕ (Int × Int))) (hf : ∀ x y : Nat, f ((x : Int), (y : Int)) = if 0 < y then some (.inl ((y : Int), Int.tmod (x : Int) (y : Int))) else some (.inr ((x : Int), (y : Int)))) :
    ∀ (n x y : Nat), y ≤ n → loopO f ((x : Int), (y : Int)) = some ((Nat.gcd x y : Int), 0)
  | 0, x, y, h => by
    have : y = 0 := by omega
    subst this
    rw [loopO_stop (t := ((x : Int), ((0 : Nat) : Int))) (by rw [hf, if_neg (by omega)]), Nat.gcd_zero_right]
    rfl
  | n + 1, x, y, h => by
    by_cases hy : 0 < y
    · have hlt := Nat.mod_lt x hy
      rw [loopO_next (s' := ((y : Int), ((x % y : Nat) : Int))) (by rw [hf, if_pos hy]; rfl), gcd_run f hf n y (x % y) (by omega), Nat.gcd_comm y (x % y), ← Nat.gcd_rec, Nat.gcd_comm]
    · have : y = 0 := by omega
      subst this
      rw [loopO_stop (t := ((x : Int), ((0 : Nat) : Int))) (by rw [hf, if_neg (by omega)]), Nat.gcd_zero_right]
      rfl
def RatS (a b : Nat) : TRatio := ⟨((a / Nat.gcd a b : Nat) : Int), ((b / Nat.gcd a b : Nat) : Int)⟩
theorem ratio_eq {a b : Nat} (hb : 0 < b) (ha : a ≤ 9223372036854775807) (hb' : b ≤ 9223372036854775807) : sample_ratio (a : Int) (b : Int) = some (RatS a b) := by
  have hg : 0 < Nat.gcd a b := Nat.gcd_pos_of_pos_right _ hb
  unfold sample_ratio
  rw [gcd_run sample_ratio_l1 (fun x y => by
    unfold sample_ratio_l1; dsimp only
    by_cases hy : 0 < y
    · rw [ite_t (by omega), if_pos hy, guardO_pos (by omega)]
    · rw [ite_f (by omega), if_neg hy]) b a b (Nat.le_refl _)]
  dsimp only [Option.bind_some]
  have h1 := Nat.div_le_self a (Nat.gcd a b)
  have h2 := Nat.div_le_self b (Nat.gcd a b)
  rw [guardO_pos (by omega), guardO_pos (by omega), tdiv_nat, tdiv_nat]
  unfold RatS
  generalize a / Nat.gcd a b = p at h1 ⊢
  generalize b / Nat.gcd a b = q at h2 ⊢
  rw [w64_id (by omega) (by omega), w64_id (by omega) (by omega)]
theorem ref_ratio_eq {a b : Nat} (hb : 0 < b) (ha : a ≤ 9223372036854775807) (hb' : b ≤ 9223372036854775807) : calxref03_ratio (a : Int) (b : Int) = some (RatS a b) := by
  have hg : 0 < Nat.gcd a b := Nat.gcd_pos_of_pos_right _ hb
  unfold calxref03_ratio
  rw [gcd_run calxref03_ratio_l1 (fun x y => by
    unfold calxref03_ratio_l1; dsimp only
    by_cases hy : 0 < y
    · rw [if_pos (by simp; omega), if_pos hy, guardO_pos (by omega)]
    · rw [if_neg (by simp; omega), if_neg hy]) b a b (Nat.le_refl _)]
  dsimp only [Option.bind_some]
  have h1 := Nat.div_le_self a (Nat.gcd a b)
  have h2 := Nat.div_le_self b (Nat.gcd a b)
  rw [guardO_pos (by omega), guardO_pos (by omega), tdiv_nat, tdiv_nat]
  unfold RatS
  generalize a / Nat.gcd a b = p at h1 ⊢
  generalize b / Nat.gcd a b = q at h2 ⊢
  rw [w64_id (by omega) (by omega), w64_id (by omega) (by omega)]
/-- A fraction in lowest terms, and what it was. -/
theorem RatS_is {a b : Nat} (hb : 0 < b) : ∃ p q : Nat, RatS a b = ⟨(p : Int), (q : Int)⟩ ∧ 0 < q ∧ a = Nat.gcd a b * p ∧ b = Nat.gcd a b * q ∧ p ≤ a ∧ q ≤ b := by
  have hg : 0 < Nat.gcd a b := Nat.gcd_pos_of_pos_right _ hb
  have h1 := Nat.mul_div_cancel' (Nat.gcd_dvd_left a b)
  have h2 := Nat.mul_div_cancel' (Nat.gcd_dvd_right a b)
  refine ⟨a / Nat.gcd a b, b / Nat.gcd a b, rfl, ?_, h1.symm, h2.symm, Nat.div_le_self .., Nat.div_le_self ..⟩
  exact Nat.div_pos (Nat.le_of_dvd hb (Nat.gcd_dvd_right a b)) hg
theorem RatS_self {a : Nat} (ha : 0 < a) : RatS a a = ⟨1, 1⟩ := by
  unfold RatS
  rw [Nat.gcd_self, Nat.div_self ha]
  rfl

/-! ### Mean, Next -/
theorem mom_nat {b : TBatch} (h : CheckS b = 0) {s : Int} (hs : 0 ≤ s ∧ s ≤ 2) : 0 ≤ momI b s ∧ momI b s ≤ 50 * 495918532948104 := by
  have h1 := mom_ends h hs
  have h2 := Ends_rg h hs
  have h3 := totN_le (Check_okB h)
  have h4 : 0 ≤ (EndsS b s).fLo * (totN b : Int) := Int.mul_nonneg h2.1 (by omega)
  have h5 : (EndsS b s).fHi * (totN b : Int) ≤ 50 * (totN b : Int) := Int.mul_le_mul_of_nonneg_right (by omega) (by omega)
  omega
theorem Mean_spec {b : TBatch} {s : Int} (h : SortS b s = 0) : sample_Mean b s = some (RatS (momI b s).toNat (totN b), 0) := by
  obtain ⟨hc, hs⟩ := Sort_0.1 h
  have h1 := mom_nat hc hs
  have h2 := tot_pos hc
  have h3 := totN_le (Check_okB hc)
  have hg := WtS_Gd hc hs
  unfold sample_Mean
  rw [sorted_spec, bnd rfl, h, weights_eq (Check_okB hc) hs]
  simp only [Option.bind_some]
  rw [if_neg (by simp), total_eq hg (by omega), bnd rfl, sum_int_eq (by have := hg.1; omega) hg.2.1 hg.2.2, bnd rfl, totP_WtS hc hs, WtS_tot hc hs, Int.zero_mul, Int.sub_zero, ← Int.toNat_of_nonneg h1.1, ratio_eq (by omega) (by omega) (by omega)]
  rfl
theorem Next_spec {b : TBatch} {s : Int} (h : SortS b s = 0) : sample_Next b s = some (if b.fBarrows - (b.fSeen.x0 + b.fSeen.x1 + b.fSeen.x2) = 0 then (⟨0, 0⟩, 5) else (RatS (momI b s - sel3 b.fSeen.x0 b.fSeen.x1 b.fSeen.x2 s * (totN b : Int)).toNat (totN b * (b.fBarrows - (b.fSeen.x0 + b.fSeen.x1 + b.fSeen.x2)).toNat), 0)) := by
  obtain ⟨hc, hs⟩ := Sort_0.1 h
  have hb := Check_bd hc
  have h1 := mom_nat hc hs
  have h2 := tot_pos hc
  have h3 := totN_le (Check_okB hc)
  have h4 := mom_seen hc hs
  have hg := WtS_Gd hc hs
  have hsn : 0 ≤ sel3 b.fSeen.x0 b.fSeen.x1 b.fSeen.x2 s ∧ sel3 b.fSeen.x0 b.fSeen.x1 b.fSeen.x2 s ≤ 50 := by
    have h3 : s = 0 ∨ s = 1 ∨ s = 2 := by omega
    rcases h3 with rfl | rfl | rfl <;> simp only [sel3_0, sel3_1, sel3_2] <;> omega
  have h5 : 0 ≤ sel3 b.fSeen.x0 b.fSeen.x1 b.fSeen.x2 s * (totN b : Int) := Int.mul_nonneg hsn.1 (by omega)
  unfold sample_Next
  rw [sorted_spec, bnd rfl, h, weights_eq (Check_okB hc) hs, size_nn hb.2.1]
  simp only [Option.bind_some]
  have e1 : min b.fSeen.x0 51 + min b.fSeen.x1 51 + min b.fSeen.x2 51 = b.fSeen.x0 + b.fSeen.x1 + b.fSeen.x2 := by omega
  rw [if_neg (by simp), e1, w64_id (x := b.fBarrows - _) (by omega) (by omega)]
  by_cases hl : b.fBarrows - (b.fSeen.x0 + b.fSeen.x1 + b.fSeen.x2) = 0
  · rw [if_pos (by simpa using hl), if_pos hl]
  · obtain ⟨lf, hlf⟩ : ∃ lf : Nat, (lf : Int) = b.fBarrows - (b.fSeen.x0 + b.fSeen.x1 + b.fSeen.x2) := ⟨(b.fBarrows - (b.fSeen.x0 + b.fSeen.x1 + b.fSeen.x2)).toNat, by omega⟩
    have h6 : totN b * lf ≤ 495918532948104 * 50 := Nat.mul_le_mul h3 (by omega)
    have h7 : 0 < totN b * lf := Nat.mul_pos (by omega) (by omega)
    rw [if_neg (by simpa using hl), if_neg hl, guardO_pos (by omega), total_eq hg (by omega), bnd rfl, sum_int_eq (by have := hg.1; omega) hg.2.1 hg.2.2, bnd rfl, totP_WtS hc hs, WtS_tot hc hs, ← hlf, ← Int.natCast_mul, w64_id (by omega) (by omega), Int.toNat_natCast, ← Int.toNat_of_nonneg (show 0 ≤ momI b s - sel3 b.fSeen.x0 b.fSeen.x1 b.fSeen.x2 s * (totN b : Int) by omega), ratio_eq h7 (by omega) (by omega)]
    rfl
end Go.Proofs.Ytepfgdfahinpkaa
