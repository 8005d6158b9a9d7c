/- Plain laws of sample: loops with an index, size, Check and the wholes, in the program and in the reference. No program in sight. -/
import Derived.Test.YtepfgdfahinpkaaN2
namespace Go.Proofs.Ytepfgdfahinpkaa

/-! ### Loops -/
theorem loop_for {S T : Type} {body : S → Option (S ⊕ T)} (st : Nat → S) : ∀ (n : Nat), (∀ k, k < n → body (st k) = some (.inl (st (k + 1)))) → loopO body (st 0) = loopO body (st n)
  | 0, _ => rfl
  | n + 1, h => by rw [loop_for st n (fun k hk => h k (by omega)), loopO_next (h n (by omega))]
theorem loop_run {S T : Type} {body : S → Option (S ⊕ T)} (st : Nat → S) (n : Nat) {t : T} (h : ∀ k, k < n → body (st k) = some (.inl (st (k + 1)))) (hs : body (st n) = some (.inr t)) : loopO body (st 0) = some t := by
  rw [loop_for st n h, loopO_stop hs]
theorem ite_t {α : Type} {p : Prop} [Decidable p] {x y : α} (h : p) : (if decide p = true then x else y) = x := by rw [if_pos (decide_eq_true h)]
theorem ite_f {α : Type} {p : Prop} [Decidable p] {x y : α} (h : ¬p) : (if decide p = true then x else y) = y := by rw [if_neg (by rw [decide_eq_false h]; exact Bool.false_ne_true)]
theorem bnd {α β : Type} {x : Option α} {a : α} {f : α → Option β} (h : x = some a) : x.bind f = f a := by rw [h]; rfl
theorem rdL_nat {α : Type} [Inhabited α] {xs : List α} {k : Nat} (h : k < xs.length) : rdL xs (k : Int) = xs[k] := by
  unfold rdL
  rw [Int.toNat_natCast, List.getD_eq_getElem?_getD, List.getElem?_eq_getElem h]
  rfl
theorem w64_succ {k : Nat} (h : k < 9223372036854775807) : w64 ((k : Int) + 1) = ((k + 1 : Nat) : Int) := by
  rw [w64_id (by omega) (by omega)]; rfl

theorem within_eq (n lo hi : Int) : sample_within n lo hi = some (decide (lo ≤ n ∧ n ≤ hi)) := by
  unfold sample_within; rw [Bool.decide_and]
theorem size_nn {k : TKinds} (h : 0 ≤ k.x0 ∧ 0 ≤ k.x1 ∧ 0 ≤ k.x2) : sample_size k = some (min k.x0 51 + min k.x1 51 + min k.x2 51) := size_spec (by omega) (by omega) (by omega)
theorem all_nn {k : TKinds} (h : 0 ≤ k.x0 ∧ 0 ≤ k.x1 ∧ 0 ≤ k.x2) : calxref03_all k = some (min k.x0 51 + min k.x1 51 + min k.x2 51) := by
  have st : ∀ (n i v : Int), 0 ≤ i ∧ i < 3 → sel3 k.x0 k.x1 k.x2 i = v → 0 ≤ v → 0 ≤ n ∧ n ≤ 1000 → calxref03_all_l1 k (n, i) = some (.inl (n + min v 51, i + 1)) := by
    intro n i v hi hv h0 hn
    unfold calxref03_all_l1; dsimp only
    rw [ite_t hi.2, guardO_pos hi, hv, w64_id (by omega) (by omega), w64_id (by omega) (by omega)]
  have e0 := st 0 0 k.x0 (by decide) rfl h.1 (by omega)
  have e1 := st (0 + min k.x0 51) (0 + 1) k.x1 (by decide) rfl h.2.1 (by omega)
  have e2 := st (0 + min k.x0 51 + min k.x1 51) (0 + 1 + 1) k.x2 (by decide) rfl h.2.2 (by omega)
  have e3 : calxref03_all_l1 k (0 + min k.x0 51 + min k.x1 51 + min k.x2 51, 0 + 1 + 1 + 1) = some (.inr (0 + min k.x0 51 + min k.x1 51 + min k.x2 51, 0 + 1 + 1 + 1)) := by
    unfold calxref03_all_l1; dsimp only
    rw [ite_f (by decide)]
  unfold calxref03_all
  rw [loopO_next e0, loopO_next e1, loopO_next e2, loopO_stop e3, Int.zero_add]
  rfl

/-! ### The wholes of a batch -/
/-- A possible whole. -/
def OkK (b : TBatch) (k : TKinds) : Prop :=
  (b.fSeen.x0 ≤ k.x0 ∧ b.fKnown.x0.fLo ≤ k.x0 ∧ k.x0 ≤ b.fKnown.x0.fHi) ∧ (b.fSeen.x1 ≤ k.x1 ∧ b.fKnown.x1.fLo ≤ k.x1 ∧ k.x1 ≤ b.fKnown.x1.fHi) ∧ (b.fSeen.x2 ≤ k.x2 ∧ b.fKnown.x2.fLo ≤ k.x2 ∧ k.x2 ≤ b.fKnown.x2.fHi)
instance (b : TBatch) (k : TKinds) : Decidable (OkK b k) := by unfold OkK; infer_instance
def mkK (b : TBatch) (x y : Nat) : TKinds := ⟨x, y, b.fBarrows - x - y⟩
def wY (b : TBatch) (x : Nat) (l : List Nat) : List TKinds := (l.map (mkK b x)).filter fun k => decide (OkK b k)
def wX (b : TBatch) (l : List Nat) : List TKinds := l.flatMap fun x => wY b x (List.range (b.fBarrows.toNat + 1 - x))
/-- All of them, in order. -/
def wl (b : TBatch) : List TKinds := wX b (List.range (b.fBarrows.toNat + 1))
theorem wY_app (b : TBatch) (x : Nat) (l m : List Nat) : wY b x (l ++ m) = wY b x l ++ wY b x m := by simp [wY]
theorem wY_none {b : TBatch} {x : Nat} {l : List Nat} (h : ∀ y ∈ l, ¬ OkK b (mkK b x y)) : wY b x l = [] := by
  unfold wY
  rw [List.filter_eq_nil_iff]
  intro k hk
  obtain ⟨y, hy, rfl⟩ := List.mem_map.1 hk
  simpa using h y hy
theorem wX_app (b : TBatch) (l m : List Nat) : wX b (l ++ m) = wX b l ++ wX b m := by simp [wX]
theorem wX_none {b : TBatch} {l : List Nat} (h : ∀ x ∈ l, ∀ y, ¬ OkK b (mkK b x y)) : wX b l = [] := by
  unfold wX
  rw [List.flatMap_eq_nil_iff]
  exact fun x hx => wY_none (fun y _ => h x hx y)
theorem whY_eq {b : TBatch} (hb : sample_okB b) {x : Nat} (hx0 : max b.fSeen.x0 b.fKnown.x0.fLo ≤ (x : Int)) (hx1 : (x : Int) ≤ b.fKnown.x0.fHi) : ∀ (c : Nat) (y : Nat), max b.fSeen.x1 b.fKnown.x1.fLo ≤ (y : Int) → (y : Int) + c ≤ b.fKnown.x1.fHi + 1 → sample_whY b x c y = wY b x (List.range' y c)
  | 0, y, _, _ => rfl
  | c + 1, y, h0, h1 => by
    have ih := whY_eq hb hx0 hx1 c (y + 1) (by omega) (by omega)
    unfold sample_whY
    rw [List.range'_succ, show y :: List.range' (y + 1) c = [y] ++ List.range' (y + 1) c from rfl, wY_app, ← ih]
    congr 1
    unfold wY mkK
    rw [List.map_cons, List.map_nil]
    by_cases h : max b.fSeen.x2 b.fKnown.x2.fLo ≤ b.fBarrows - x - y ∧ b.fBarrows - x - y ≤ b.fKnown.x2.fHi
    · rw [if_pos h, List.filter_cons_of_pos]
      · rfl
      · apply decide_eq_true
        unfold OkK
        dsimp only
        omega
    · rw [if_neg h, List.filter_cons_of_neg]
      · rfl
      · rw [decide_eq_true_eq]
        unfold OkK
        dsimp only
        omega
theorem range_parts {n a c : Nat} (h : a + c ≤ n) : List.range n = List.range' 0 a ++ (List.range' a c ++ List.range' (a + c) (n - (a + c))) := by
  have h1 : List.range' a c ++ List.range' (a + c) (n - (a + c)) = List.range' a (n - a) := by
    rw [List.range'_append_1]; congr 1; omega
  have h2 : List.range' 0 a ++ List.range' (0 + a) (n - a) = List.range' 0 (a + (n - a)) := List.range'_append_1
  rw [Nat.zero_add] at h2
  rw [h1, h2, List.range_eq_range']
  congr 1
  omega
theorem whY_all {b : TBatch} (hb : sample_okB b) {x : Nat} (hx0 : max b.fSeen.x0 b.fKnown.x0.fLo ≤ (x : Int)) (hx1 : (x : Int) ≤ b.fKnown.x0.fHi) :
    sample_whY b x (b.fKnown.x1.fHi + 1 - max b.fSeen.x1 b.fKnown.x1.fLo).toNat (max b.fSeen.x1 b.fKnown.x1.fLo) = wY b x (List.range (b.fBarrows.toNat + 1 - x)) := by
  have hb' := hb
  unfold sample_okB at hb'
  obtain ⟨lo, hlo⟩ : ∃ lo : Nat, (lo : Int) = max b.fSeen.x1 b.fKnown.x1.fLo := ⟨(max b.fSeen.x1 b.fKnown.x1.fLo).toNat, by omega⟩
  rw [← hlo]
  by_cases hc : (lo : Int) ≤ b.fKnown.x1.fHi
  · have h1 := whY_eq hb hx0 hx1 (b.fKnown.x1.fHi + 1 - lo).toNat lo (by omega) (by omega)
    rw [h1]
    -- up to the barrows
    have h2 : wY b x (List.range (b.fBarrows.toNat + 1)) = wY b x (List.range' lo (b.fKnown.x1.fHi + 1 - lo).toNat) := by
      rw [range_parts (n := b.fBarrows.toNat + 1) (a := lo) (c := (b.fKnown.x1.fHi + 1 - lo).toNat) (by omega), wY_app, wY_app, wY_none (l := List.range' 0 lo), wY_none (l := List.range' (lo + _) _)]
      · simp
      · intro y hy
        have := List.mem_range'_1.1 hy
        unfold OkK mkK
        dsimp only
        omega
      · intro y hy
        have := List.mem_range'_1.1 hy
        unfold OkK mkK
        dsimp only
        omega
    rw [← h2, range_parts (n := b.fBarrows.toNat + 1) (a := b.fBarrows.toNat + 1 - x) (c := x) (by omega), wY_app, List.range_eq_range', wY_app, wY_none (l := List.range' _ x), wY_none (l := List.range' (_ + x) _)]
    · simp
    · intro y hy
      have := List.mem_range'_1.1 hy
      unfold OkK mkK
      dsimp only
      omega
    · intro y hy
      have := List.mem_range'_1.1 hy
      unfold OkK mkK
      dsimp only
      omega
  · rw [show (b.fKnown.x1.fHi + 1 - (lo : Int)).toNat = 0 by omega, wY_none]
    · rfl
    · intro y hy
      unfold OkK mkK
      dsimp only
      omega
theorem whX_eq {b : TBatch} (hb : sample_okB b) : ∀ (c : Nat) (x : Nat), max b.fSeen.x0 b.fKnown.x0.fLo ≤ (x : Int) → (x : Int) + c ≤ b.fKnown.x0.fHi + 1 → sample_whX b c x = wX b (List.range' x c)
  | 0, x, _, _ => rfl
  | c + 1, x, h0, h1 => by
    have ih := whX_eq hb c (x + 1) (by omega) (by omega)
    unfold sample_whX
    rw [List.range'_succ, show x :: List.range' (x + 1) c = [x] ++ List.range' (x + 1) c from rfl, wX_app, ← ih, whY_all hb h0 (by omega)]
    congr 1
    simp [wX]
theorem wh_eq {b : TBatch} (hb : sample_okB b) : sample_wh b = wl b := by
  have hb' := hb
  unfold sample_okB at hb'
  unfold sample_wh wl
  obtain ⟨lo, hlo⟩ : ∃ lo : Nat, (lo : Int) = max b.fSeen.x0 b.fKnown.x0.fLo := ⟨(max b.fSeen.x0 b.fKnown.x0.fLo).toNat, by omega⟩
  rw [← hlo]
  by_cases hc : (lo : Int) ≤ b.fKnown.x0.fHi
  · rw [whX_eq hb (b.fKnown.x0.fHi + 1 - lo).toNat lo (by omega) (by omega)]
    rw [range_parts (n := b.fBarrows.toNat + 1) (a := lo) (c := (b.fKnown.x0.fHi + 1 - lo).toNat) (by omega), wX_app, wX_app, wX_none (l := List.range' 0 lo), wX_none (l := List.range' (lo + _) _)]
    · simp
    · intro x hx y
      have := List.mem_range'_1.1 hx
      unfold OkK mkK
      dsimp only
      omega
    · intro x hx y
      have := List.mem_range'_1.1 hx
      unfold OkK mkK
      dsimp only
      omega
  · rw [show (b.fKnown.x0.fHi + 1 - (lo : Int)).toNat = 0 by omega, wX_none]
    · rfl
    · intro x hx y
      unfold OkK mkK
      dsimp only
      omega
/-- How many there are at most. -/
theorem wl_len_le (b : TBatch) (h : b.fBarrows ≤ 50) : (wl b).length ≤ 3000 := by
  unfold wl wX
  rw [List.length_flatMap]
  have h1 : ∀ x, (wY b x (List.range (b.fBarrows.toNat + 1 - x))).length ≤ 51 := fun x => by
    unfold wY
    refine Nat.le_trans (List.length_filter_le ..) ?_
    simp
    omega
  have h2 : ∀ l : List Nat, (l.map fun x => (wY b x (List.range (b.fBarrows.toNat + 1 - x))).length).sum ≤ l.length * 51 := by
    intro l
    induction l with
    | nil => simp
    | cons x l ih =>
      have := h1 x
      simp only [List.map_cons, List.sum_cons, List.length_cons]
      omega
  have := h2 (List.range (b.fBarrows.toNat + 1))
  rw [List.length_range] at this
  omega
theorem mem_wl {b : TBatch} {k : TKinds} (h : k ∈ wl b) (h0 : 0 ≤ b.fBarrows) : OkK b k ∧ (0 ≤ k.x0 ∧ 0 ≤ k.x1 ∧ 0 ≤ k.x2) ∧ k.x0 + k.x1 + k.x2 = b.fBarrows := by
  unfold wl wX wY at h
  obtain ⟨x, hx, h⟩ := List.mem_flatMap.1 h
  obtain ⟨h, hk⟩ := List.mem_filter.1 h
  obtain ⟨y, hy, rfl⟩ := List.mem_map.1 h
  have hx' := List.mem_range.1 hx
  have hy' := List.mem_range.1 hy
  refine ⟨of_decide_eq_true hk, ?_, ?_⟩ <;> unfold mkK <;> dsimp only <;> omega
theorem wl_mem {b : TBatch} {k : TKinds} (hk : OkK b k) (h0 : 0 ≤ k.x0 ∧ 0 ≤ k.x1 ∧ 0 ≤ k.x2) (hs : k.x0 + k.x1 + k.x2 = b.fBarrows) : k ∈ wl b := by
  unfold wl wX wY
  refine List.mem_flatMap.2 ⟨k.x0.toNat, List.mem_range.2 (by omega), List.mem_filter.2 ⟨List.mem_map.2 ⟨k.x1.toNat, List.mem_range.2 (by omega), ?_⟩, decide_eq_true hk⟩⟩
  unfold mkK
  cases k
  dsimp only at *
  congr 1 <;> omega

/-! ### Check -/
def OkSeen (b : TBatch) : Prop := (1 ≤ b.fBarrows ∧ b.fBarrows ≤ 50) ∧ (0 ≤ b.fSeen.x0 ∧ 0 ≤ b.fSeen.x1 ∧ 0 ≤ b.fSeen.x2) ∧ min b.fSeen.x0 51 + min b.fSeen.x1 51 + min b.fSeen.x2 51 ≤ b.fBarrows
instance (b : TBatch) : Decidable (OkSeen b) := by unfold OkSeen; infer_instance
def OkKn (b : TBatch) (s : TSpan) : Prop := 0 ≤ s.fLo ∧ s.fLo ≤ s.fHi ∧ s.fHi ≤ b.fBarrows
instance (b : TBatch) (s : TSpan) : Decidable (OkKn b s) := by unfold OkKn; infer_instance
def OkKnown (b : TBatch) : Prop := OkKn b b.fKnown.x0 ∧ OkKn b b.fKnown.x1 ∧ OkKn b b.fKnown.x2
instance (b : TBatch) : Decidable (OkKnown b) := by unfold OkKnown; infer_instance
/-- The first error of a batch. -/
def CheckS (b : TBatch) : Int := if OkSeen b then if OkKnown b then if wl b = [] then 9 else 0 else 1 else 1
theorem okB_of {b : TBatch} (h : OkSeen b) (h' : OkKnown b) : sample_okB b := by
  unfold OkSeen at h
  unfold OkKnown OkKn at h'
  unfold sample_okB
  omega
theorem Check_0 {b : TBatch} : CheckS b = 0 ↔ OkSeen b ∧ OkKnown b ∧ wl b ≠ [] := by
  unfold CheckS
  by_cases h : OkSeen b
  · by_cases h' : OkKnown b
    · by_cases h'' : wl b = []
      · simp [h, h', h'']
      · simp [h, h', h'']
    · simp [h, h']
  · simp [h]
theorem Check_okB {b : TBatch} (h : CheckS b = 0) : sample_okB b := okB_of (Check_0.1 h).1 (Check_0.1 h).2.1
theorem Check_rg (b : TBatch) : CheckS b = 0 ∨ CheckS b = 1 ∨ CheckS b = 9 := by
  unfold CheckS
  split
  · split
    · split <;> simp
    · simp
  · simp
theorem isSample_eq (k : TKinds) : sample_isSample k = some (decide (0 ≤ k.x0 ∧ 0 ≤ k.x1 ∧ 0 ≤ k.x2)) := isSample_spec k
theorem Check_l1_step (b : TBatch) (i e : Int) (s : TSpan) (hi : 0 ≤ i ∧ i < 3) (h1 : sel3 b.fKnown.x0.fLo b.fKnown.x1.fLo b.fKnown.x2.fLo i = s.fLo) (h2 : sel3 b.fKnown.x0.fHi b.fKnown.x1.fHi b.fKnown.x2.fHi i = s.fHi) :
    sample_Check_l1 b (i, e) = if OkKn b s then some (.inl (i + 1, e)) else some (.inr (.inl (i, 1))) := by
  unfold sample_Check_l1; dsimp only
  rw [ite_t hi.2, guardO_pos hi, h1, h2, w64_id (by omega) (by omega)]
  by_cases h : OkKn b s
  · rw [if_pos h]
    unfold OkKn at h
    rw [if_neg (by simp; omega)]
  · rw [if_neg h]
    unfold OkKn at h
    rw [if_pos (by simp; omega)]
theorem Check_l1_run (b : TBatch) : (OkKnown b ∧ loopO (sample_Check_l1 b) (0, 0) = some (.inr (3, 0))) ∨ (¬ OkKnown b ∧ ∃ i, loopO (sample_Check_l1 b) (0, 0) = some (.inl (i, 1))) := by
  have e0 := Check_l1_step b 0 0 b.fKnown.x0 (by decide) rfl rfl
  have e1 := Check_l1_step b (0 + 1) 0 b.fKnown.x1 (by decide) rfl rfl
  have e2 := Check_l1_step b (0 + 1 + 1) 0 b.fKnown.x2 (by decide) rfl rfl
  unfold OkKnown
  by_cases h0 : OkKn b b.fKnown.x0
  · rw [if_pos h0] at e0
    by_cases h1 : OkKn b b.fKnown.x1
    · rw [if_pos h1] at e1
      by_cases h2 : OkKn b b.fKnown.x2
      · rw [if_pos h2] at e2
        refine .inl ⟨⟨h0, h1, h2⟩, ?_⟩
        rw [loopO_next e0, loopO_next e1, loopO_next e2]
        exact loopO_stop rfl
      · rw [if_neg h2] at e2
        exact .inr ⟨fun h => h2 h.2.2, _, by rw [loopO_next e0, loopO_next e1]; exact loopO_stop e2⟩
    · rw [if_neg h1] at e1
      exact .inr ⟨fun h => h1 h.2.1, _, by rw [loopO_next e0]; exact loopO_stop e1⟩
  · rw [if_neg h0] at e0
    exact .inr ⟨fun h => h0 h.1, _, loopO_stop e0⟩
theorem sample_Check_spec (b : TBatch) : sample_Check b = some (CheckS b) := by
  unfold sample_Check
  rw [within_eq, bnd rfl, isSample_eq]
  unfold CheckS
  by_cases hN : 1 ≤ b.fBarrows ∧ b.fBarrows ≤ 50
  · rw [decide_eq_true hN]
    by_cases hs : 0 ≤ b.fSeen.x0 ∧ 0 ≤ b.fSeen.x1 ∧ 0 ≤ b.fSeen.x2
    · rw [decide_eq_true hs, size_nn hs]
      simp only [Option.bind_some, Bool.not_true, Bool.false_eq_true, if_false]
      by_cases hz : min b.fSeen.x0 51 + min b.fSeen.x1 51 + min b.fSeen.x2 51 ≤ b.fBarrows
      · have hok : OkSeen b := ⟨hN, hs, hz⟩
        rw [if_pos hok, ite_f (by omega)]
        rcases Check_l1_run b with ⟨hk, hr⟩ | ⟨hk, i, hr⟩
        · rw [hr, if_pos hk]
          dsimp only [Option.bind_some]
          unfold sample_wholes
          dsimp only [Option.bind_some]
          rw [guardO_pos (okB_of hok hk), wh_eq (okB_of hok hk)]
          cases hw : wl b with
          | nil => rfl
          | cons x xs => rfl
        · rw [hr, if_neg hk]
          rfl
      · rw [if_neg (fun h : OkSeen b => hz h.2.2), ite_t (by omega)]
    · rw [decide_eq_false hs, if_neg (fun h : OkSeen b => hs h.2.1)]
      rfl
  · rw [decide_eq_false hN, if_neg (fun h : OkSeen b => hN h.1)]
    rfl
end Go.Proofs.Ytepfgdfahinpkaa
