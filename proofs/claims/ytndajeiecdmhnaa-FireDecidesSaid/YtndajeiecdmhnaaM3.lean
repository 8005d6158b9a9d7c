/- Plain laws of fire: the looks by their IDs. No program in sight. -/
import Derived.Test.YtndajeiecdmhnaaM2
set_option linter.unusedVariables false
namespace Go.Proofs.Ytndajeiecdmhnaa

theorem rdL_mid {α : Type} [Inhabited α] (A : List α) (x : α) (B : List α) (j : Int) (hj : j = (A.length : Int)) : rdL (A ++ x :: B) j = x := by
  subst hj
  unfold rdL
  rw [Int.toNat_natCast, List.getD_eq_getElem?_getD, List.getElem?_append_right (Nat.le_refl _), Nat.sub_self]
  rfl
theorem set_mid {α : Type} (A : List α) (x y : α) (B : List α) (j : Nat) (hj : j = A.length) : (A ++ x :: B).set j y = A ++ y :: B := by
  subst hj
  rw [List.set_append_right _ _ (Nat.le_refl _), Nat.sub_self]
  rfl
/-- One look is carried to the left, in a range that begins behind P. -/
theorem insL2 {n : Nat} {data0 : List TLook} (h0 : data0.length = n) (hn : n < 1000000) {cmp : TLook → TLook → Option Int} (c : TLook → TLook → Int) (S : TLook → Prop) (hc : ∀ x y, S x → S y → cmp x y = some (c x y) ∧ (c x y < 0 ↔ x.fID < y.fID)) (P : List TLook) (x : TLook) (hx : S x) :
    ∀ (k : Nat) (A1 T : List TLook), A1.length = k → P.length + (A1.length + 1 + T.length) = n → (∀ y ∈ A1, S y) → ∃ B1 B2 : List TLook, A1 = B1 ++ B2 ∧ loopO (slices_insertionSortCmpFunc_calx_api_Look_l2 data0 (P.length : Int) cmp) (((P.length + A1.length : Nat) : Int), P ++ (A1 ++ x :: T)) = some (((P.length + B1.length : Nat) : Int), P ++ (B1 ++ x :: (B2 ++ T))) ∧ (∀ y ∈ B2, x.fID < y.fID) ∧ (∀ y, B1.getLast? = some y → ¬ x.fID < y.fID) := by
  intro k
  induction k with
  | zero =>
    intro A1 T hk hl hS
    have : A1 = [] := List.eq_nil_of_length_eq_zero hk
    subst this
    refine ⟨[], [], rfl, ?_, by simp, by simp⟩
    refine loopO_stop ?_
    unfold slices_insertionSortCmpFunc_calx_api_Look_l2; dsimp only
    rw [ite_f (by simp)]
    rfl
  | succ k ih =>
    intro A1 T hk hl hS
    obtain ⟨A, y, rfl⟩ : ∃ A y, A1 = A ++ [y] := ⟨A1.dropLast, A1.getLast (by intro h; rw [h] at hk; cases hk), (List.dropLast_concat_getLast _).symm⟩
    have hA : A.length = k := by simpa using hk
    simp only [List.length_append, List.length_cons, List.length_nil] at hl
    have hy : S y := hS y (by simp)
    have e1 : P ++ (A ++ [y] ++ x :: T) = (P ++ A) ++ y :: x :: T := by simp
    have e2 : P ++ (A ++ [y] ++ x :: T) = (P ++ (A ++ [y])) ++ x :: T := by simp
    have hi : ((P.length + (A ++ [y]).length : Nat) : Int) = ((P ++ (A ++ [y])).length : Int) := by simp
    have hj1 : w64 (((P.length + (A ++ [y]).length : Nat) : Int) - 1) = ((P ++ A).length : Int) := by rw [w64_id (by simp only [List.length_append, List.length_cons, List.length_nil]; omega) (by simp only [List.length_append, List.length_cons, List.length_nil]; omega)]; simp; omega
    have r1 : rdL (P ++ (A ++ [y] ++ x :: T)) ((P.length + (A ++ [y]).length : Nat) : Int) = x := by rw [e2]; exact rdL_mid _ _ _ _ hi
    have r2 : rdL (P ++ (A ++ [y] ++ x :: T)) ((P ++ A).length : Int) = y := by rw [e1]; exact rdL_mid _ _ _ _ rfl
    obtain ⟨hc1, hc2⟩ := hc x y hx hy
    have g1 : (0 : Int) ≤ ((P.length + (A ++ [y]).length : Nat) : Int) ∧ ((P.length + (A ++ [y]).length : Nat) : Int) < ((data0.length : Nat) : Int) := by rw [h0]; simp only [List.length_append, List.length_cons, List.length_nil]; omega
    have g2 : (0 : Int) ≤ ((P ++ A).length : Int) ∧ ((P ++ A).length : Int) < ((data0.length : Nat) : Int) := by rw [h0]; simp only [List.length_append]; omega
    have hd : decide ((P.length : Int) < ((P.length + (A ++ [y]).length : Nat) : Int)) = true := decide_eq_true (by simp only [List.length_append, List.length_cons, List.length_nil]; omega)
    have step : slices_insertionSortCmpFunc_calx_api_Look_l2 data0 (P.length : Int) cmp (((P.length + (A ++ [y]).length : Nat) : Int), P ++ (A ++ [y] ++ x :: T)) = if x.fID < y.fID then some (.inl (((P.length + A.length : Nat) : Int), P ++ (A ++ x :: ([y] ++ T)))) else some (.inr (((P.length + (A ++ [y]).length : Nat) : Int), P ++ (A ++ [y] ++ x :: T))) := by
      unfold slices_insertionSortCmpFunc_calx_api_Look_l2; dsimp only
      simp only [hj1, r1, r2, hd, if_true, guardO_pos g1, guardO_pos g2, TLook_eta, hc1, Option.bind_some]
      by_cases hlt : x.fID < y.fID
      · rw [if_pos (decide_eq_true (hc2.2 hlt)), if_pos hlt]
        refine congrArg some (congrArg Sum.inl (Prod.ext (by simp) ?_))
        show ((P ++ (A ++ [y] ++ x :: T)).set (Int.toNat ((P.length + (A ++ [y]).length : Nat) : Int)) y).set (Int.toNat ((P ++ A).length : Int)) x = _
        rw [Int.toNat_natCast, Int.toNat_natCast, e2, set_mid (P ++ (A ++ [y])) x y T _ (by simp)]
        have e3 : P ++ (A ++ [y]) ++ y :: T = (P ++ A) ++ y :: (y :: T) := by simp
        rw [e3, set_mid (P ++ A) y x (y :: T) _ rfl]
        simp
      · rw [if_neg (by rw [decide_eq_true_eq]; exact fun h => hlt (hc2.1 h)), if_neg hlt]
    by_cases hlt : x.fID < y.fID
    · rw [if_pos hlt] at step
      obtain ⟨B1, B2, hB, hr, h2, h3⟩ := ih A ([y] ++ T) hA (by simp; omega) (fun z hz => hS z (by simp [hz]))
      refine ⟨B1, B2 ++ [y], by rw [hB, List.append_assoc], ?_, ?_, h3⟩
      · rw [loopO_next step, hr]
        simp
      · intro z hz
        rcases List.mem_append.1 hz with hz | hz
        · exact h2 z hz
        · rw [List.mem_singleton.1 hz]; exact hlt
    · rw [if_neg hlt] at step
      refine ⟨A ++ [y], [], by simp, ?_, by simp, ?_⟩
      · rw [loopO_stop step]; simp
      · intro z hz
        simp at hz
        rw [← hz]
        exact hlt
def Sorted (l : List TLook) : Prop := l.Pairwise (fun a b => a.fID < b.fID)
/-- Insertion sort of a range. -/
theorem insRange {P l E : List TLook} {n : Nat} (hl : P.length + (l.length + E.length) = n) (hn : n < 1000000) {cmp : TLook → TLook → Option Int} (c : TLook → TLook → Int) (hc : ∀ x y, x ∈ l → y ∈ l → cmp x y = some (c x y) ∧ (c x y < 0 ↔ x.fID < y.fID)) (hd : (l.map (·.fID)).Nodup) :
    ∃ s, slices_insertionSortCmpFunc_calx_api_Look (P ++ (l ++ E)) (P.length : Int) ((P.length + l.length : Nat) : Int) cmp = some (P ++ (s ++ E)) ∧ s.Perm l ∧ Sorted s := by
  unfold slices_insertionSortCmpFunc_calx_api_Look
  have hlen0 : (P ++ (l ++ E)).length = n := by simp; omega
  by_cases hnil : l = []
  · subst hnil
    refine ⟨[], ?_, List.Perm.refl _, List.Pairwise.nil⟩
    simp only [List.length_nil] at hl
    rw [loopO_stop (t := (w64 ((P.length : Int) + 1), P ++ ([] ++ E))) (by
      unfold slices_insertionSortCmpFunc_calx_api_Look_l1; dsimp only
      rw [w64_succ (by omega), ite_f (by simp only [List.length_nil]; omega)])]
    rfl
  have hinv := loopO_inv (body := slices_insertionSortCmpFunc_calx_api_Look_l1 (P ++ (l ++ E)) (P.length : Int) ((P.length + l.length : Nat) : Int) cmp)
    (fun st => ∃ A R, st = (((P.length + A.length : Nat) : Int), P ++ (A ++ R ++ E)) ∧ (A ++ R).Perm l ∧ Sorted A)
    (fun _ t => ∃ s, t.2 = P ++ (s ++ E) ∧ s.Perm l ∧ Sorted s) (fun st => n + 1 - st.1.toNat) (by
      rintro _ ⟨A, R, rfl, hp, hs⟩
      have hlen : A.length + R.length = l.length := by have := hp.length_eq; rw [List.length_append] at this; omega
      cases R with
      | nil =>
        simp only [List.length_nil] at hlen
        refine .inr ⟨(((P.length + A.length : Nat) : Int), P ++ (A ++ [] ++ E)), ?_, ?_⟩
        · unfold slices_insertionSortCmpFunc_calx_api_Look_l1; dsimp only
          rw [ite_f (by omega)]
        · dsimp only
          rw [List.append_nil] at hp ⊢
          exact ⟨A, rfl, hp, hs⟩
      | cons x T =>
        simp only [List.length_cons] at hlen
        refine .inl ?_
        have hmem : ∀ z ∈ A ++ x :: T, z ∈ l := fun z hz => hp.mem_iff.1 hz
        obtain ⟨B1, B2, hB, hr, h2, h3⟩ := insL2 (data0 := P ++ (l ++ E)) hlen0 hn c (fun z => z ∈ l) hc P x (hmem x (by simp)) A.length A (T ++ E) rfl (by simp; omega) (fun y hy => hmem y (by simp [hy]))
        have e1 : P ++ (A ++ x :: T ++ E) = P ++ (A ++ x :: (T ++ E)) := by simp
        refine ⟨(((P.length + (A.length + 1) : Nat) : Int), P ++ (B1 ++ x :: (B2 ++ (T ++ E)))), ?_, ⟨B1 ++ x :: B2, T, ?_, ?_, ?_⟩, ?_, fun t h => h⟩
        · unfold slices_insertionSortCmpFunc_calx_api_Look_l1; dsimp only
          rw [ite_t (by omega), e1, hr, Option.bind_some, w64_succ (by omega)]
          rfl
        · simp [hB]; omega
        · refine List.Perm.trans ?_ hp
          rw [hB]
          simp only [List.append_assoc, List.cons_append]
          exact List.Perm.append_left B1 (by
            have : (x :: (B2 ++ T)).Perm (B2 ++ x :: T) := (List.perm_middle).symm
            exact this)
        · unfold Sorted at hs ⊢
          rw [hB, List.pairwise_append] at hs
          rw [List.pairwise_append]
          obtain ⟨s1, s2, s3⟩ := hs
          have hne : ∀ y ∈ B1, y.fID < x.fID := by
            intro y hy
            have hlast : ∀ z, B1.getLast? = some z → z.fID < x.fID := by
              intro z hz
              have h4 := h3 z hz
              have hzm : z ∈ B1 := List.mem_of_getLast? hz
              have hne : z.fID ≠ x.fID := by
                intro he
                have hnd : ((A ++ x :: T).map (·.fID)).Nodup := (hp.map (·.fID)).nodup_iff.2 hd
                rw [List.map_append, List.nodup_append] at hnd
                exact hnd.2.2 z.fID (List.mem_map.2 ⟨z, by rw [hB]; simp [hzm], rfl⟩) x.fID (by simp) he
              omega
            rcases List.eq_nil_or_concat B1 with rfl | ⟨B, z, rfl⟩
            · cases hy
            · have hz := hlast z (by simp)
              rw [List.concat_eq_append] at hy s1
              rcases List.mem_append.1 hy with hy | hy
              · rw [List.pairwise_append] at s1
                have := s1.2.2 y hy z (by simp)
                omega
              · rw [List.mem_singleton.1 hy]; exact hz
          refine ⟨s1, List.pairwise_cons.2 ⟨h2, s2⟩, ?_⟩
          intro y hy z hz
          rcases List.mem_cons.1 hz with rfl | hz
          · exact hne y hy
          · exact s3 y hy z hz
        · dsimp only
          omega) (w64 ((P.length : Int) + 1), P ++ (l ++ E)) (by
      rw [w64_succ (by omega)]
      cases l with
      | nil => exact absurd rfl hnil
      | cons x T => exact ⟨[x], T, rfl, List.Perm.refl _, List.pairwise_singleton _ _⟩)
  obtain ⟨t, h1, s, h2, h3, h4⟩ := hinv
  rw [h1]
  exact ⟨s, congrArg some h2, h3, h4⟩
/-! ### sorted -/
theorem Sorted_unique {s t : List TLook} (h : s.Perm t) (hs : Sorted s) (ht : Sorted t) : s = t :=
  List.Perm.eq_of_pairwise (le := fun (a b : TLook) => a.fID < b.fID) (fun a b _ _ h1 h2 => by
    have h1' : a.fID < b.fID := h1
    have h2' : b.fID < a.fID := h2
    omega) hs ht h
/-- By their IDs. -/
def srt (l : List TLook) : List TLook := l.mergeSort (fun a b => decide (a.fID ≤ b.fID))
theorem srt_perm (l : List TLook) : (srt l).Perm l := List.mergeSort_perm _ _
theorem srt_mem {l : List TLook} {x : TLook} : x ∈ srt l ↔ x ∈ l := (srt_perm l).mem_iff
theorem srt_len (l : List TLook) : (srt l).length = l.length := (srt_perm l).length_eq
theorem srt_sorted {l : List TLook} (hd : (l.map (·.fID)).Nodup) : Sorted (srt l) := by
  have h1 : (srt l).Pairwise (fun a b => decide (a.fID ≤ b.fID) = true) := List.pairwise_mergeSort (fun a b c h1 h2 => by simp only [decide_eq_true_eq] at h1 h2 ⊢; omega) (fun a b => by simp only [Bool.or_eq_true, decide_eq_true_eq]; omega) l
  have h2 : ((srt l).map (·.fID)).Nodup := ((srt_perm l).map (·.fID)).nodup_iff.2 hd
  rw [List.nodup_iff_pairwise_ne, List.pairwise_map] at h2
  unfold Sorted
  exact List.Pairwise.imp₂ (fun a b h1 h2 => by simp only [decide_eq_true_eq] at h1; omega) h1 h2
/-- What Check accepts. -/
def OkF (f : TFire) : Prop := OkSl f ∧ f.fLooks.length ≤ 24 ∧ (∀ x ∈ f.fLooks, OkLook x) ∧ (f.fLooks.map (·.fID)).Nodup
theorem CheckS_ok {f : TFire} : CheckS f = 0 ↔ OkF f := CheckS_0
theorem foldO_app1 {α : Type} (f : List α → α → Option (List α ⊕ Unit)) : ∀ (l acc : List α), (∀ (a : List α) (x : α), a.length ≤ acc.length + l.length → f a x = some (.inl (a ++ [x]))) → foldO f l acc = some (.inl (acc ++ l))
  | [], acc, h => by rw [List.append_nil]; rfl
  | x :: l, acc, h => by
    unfold foldO
    rw [h acc x (by omega)]
    dsimp only
    rw [foldO_app1 f l (acc ++ [x]) (fun a y ha => h a y (by simp at ha ⊢; omega))]
    simp
theorem Collect_eq {l : List TLook} (hl : l.length ≤ 1000) : slices_Collect_calx_api_Look l = some l := by
  unfold slices_Collect_calx_api_Look slices_AppendSeq_calx_api_Look_calx_api_Look
  rw [guardO_pos (show seqLook_ok l from hl)]
  have h : foldO slices_AppendSeq_calx_api_Look_calx_api_Look_r1 (seqLook l) [] = some (.inl ([] ++ l)) := foldO_app1 _ l [] (fun a x ha => by
    unfold slices_AppendSeq_calx_api_Look_calx_api_Look_r1
    rw [guardO_pos (by simp at ha; omega)])
  rw [h]
  rfl
theorem Len_some {n : Nat} (h : n < 16) : ∃ v, math_bits_Len ((n : Nat) : Int) = some v := by
  unfold math_bits_Len math_bits_Len64
  rw [guardO_pos (by omega)]
  exact ⟨_, rfl⟩
/-! ### thirteen looks -/
def lt (x y : TLook) : Prop := x.fID < y.fID
instance (x y : TLook) : Decidable (lt x y) := inferInstanceAs (Decidable (_ < _))
def gt (d : List TLook) (k : Nat) : TLook := d.getD k default
theorem rdL_gt (d : List TLook) (k : Nat) : rdL d (k : Int) = gt d k := by unfold rdL gt; rw [Int.toNat_natCast]
theorem rdL_gt0 (d : List TLook) : rdL d 0 = gt d 0 := rdL_gt d 0
theorem gt_get {d : List TLook} {k : Nat} (h : k < d.length) : gt d k = d[k] := getD_lt h
theorem gt_mem {d : List TLook} {k : Nat} (h : k < d.length) : gt d k ∈ d := by rw [gt_get h]; exact List.getElem_mem h
def swp (d : List TLook) (i j : Nat) : List TLook := (d.set i (gt d j)).set j (gt d i)
theorem swp_len (d : List TLook) (i j : Nat) : (swp d i j).length = d.length := by unfold swp; rw [List.length_set, List.length_set]
theorem swp_perm {d : List TLook} {i j : Nat} (hi : i < d.length) (hj : j < d.length) : (swp d i j).Perm d := by
  unfold swp
  rw [gt_get hi, gt_get hj]
  exact List.set_set_perm hi hj
theorem gt_swp {d : List TLook} {i j k : Nat} (hi : i < d.length) (hj : j < d.length) (hk : k < d.length) : gt (swp d i j) k = if j = k then gt d i else if i = k then gt d j else gt d k := by
  rw [gt_get (by rw [swp_len]; exact hk)]
  unfold swp
  rw [List.getElem_set, List.getElem_set]
  rw [gt_get hk]
theorem scanUp {body : Int → Option (Int ⊕ Int)} (q : Nat → Prop) (m : Nat) : ∀ (w i0 : Nat), m - i0 = w → i0 ≤ m → (∀ k, i0 ≤ k → k < m → (q k ∧ body (k : Int) = some (.inl ((k + 1 : Nat) : Int))) ∨ (¬ q k ∧ body (k : Int) = some (.inr (k : Int)))) → body (m : Int) = some (.inr (m : Int)) →
    ∃ i : Nat, i0 ≤ i ∧ i ≤ m ∧ loopO body (i0 : Int) = some (i : Int) ∧ (∀ k, i0 ≤ k → k < i → q k) ∧ (i < m → ¬ q i)
  | 0, i0, hw, hle, hb, hm => by
    have : i0 = m := by omega
    subst this
    exact ⟨i0, Nat.le_refl _, Nat.le_refl _, loopO_stop hm, fun k h1 h2 => by omega, fun h => by omega⟩
  | w + 1, i0, hw, hle, hb, hm => by
    rcases hb i0 (Nat.le_refl _) (by omega) with ⟨h1, h2⟩ | ⟨h1, h2⟩
    · obtain ⟨i, a1, a2, a3, a4, a5⟩ := scanUp q m w (i0 + 1) (by omega) (by omega) (fun k hk1 hk2 => hb k (by omega) hk2) hm
      refine ⟨i, by omega, a2, by rw [loopO_next h2, a3], fun k hk1 hk2 => ?_, a5⟩
      by_cases e : k = i0
      · rw [e]; exact h1
      · exact a4 k (by omega) hk2
    · exact ⟨i0, Nat.le_refl _, hle, loopO_stop h2, fun k h1 h2 => by omega, fun _ => h1⟩
theorem scanDown {body : Int → Option (Int ⊕ Int)} (q : Nat → Prop) (u : Nat) (hu : 1 ≤ u) : ∀ (w j0 : Nat), j0 + 1 - u = w → u ≤ j0 + 1 → (∀ k, u ≤ k → k ≤ j0 → (q k ∧ body (k : Int) = some (.inl ((k - 1 : Nat) : Int))) ∨ (¬ q k ∧ body (k : Int) = some (.inr (k : Int)))) → body ((u - 1 : Nat) : Int) = some (.inr ((u - 1 : Nat) : Int)) →
    ∃ j : Nat, u ≤ j + 1 ∧ j ≤ j0 ∧ loopO body (j0 : Int) = some (j : Int) ∧ (∀ k, j < k → k ≤ j0 → q k) ∧ (u ≤ j → ¬ q j)
  | 0, j0, hw, hle, hb, hm => by
    have : j0 = u - 1 := by omega
    subst this
    exact ⟨u - 1, by omega, Nat.le_refl _, loopO_stop hm, fun k h1 h2 => by omega, fun h => by omega⟩
  | w + 1, j0, hw, hle, hb, hm => by
    rcases hb j0 (by omega) (Nat.le_refl _) with ⟨h1, h2⟩ | ⟨h1, h2⟩
    · obtain ⟨j, a1, a2, a3, a4, a5⟩ := scanDown q u hu w (j0 - 1) (by omega) (by omega) (fun k hk1 hk2 => hb k hk1 (by omega)) hm
      refine ⟨j, a1, by omega, by rw [loopO_next h2, a3], fun k hk1 hk2 => ?_, a5⟩
      by_cases e : k = j0
      · rw [e]; exact h1
      · exact a4 k hk1 (by omega)
    · exact ⟨j0, hle, Nat.le_refl _, loopO_stop h2, fun k h1 h2 => by omega, fun _ => h1⟩
theorem dec_lt {c : TLook → TLook → Int} {x y : TLook} (h : c x y < 0 ↔ x.fID < y.fID) : decide (c x y < 0) = decide (lt x y) := decide_eq_decide.2 h
/-- What a partition leaves: the pivot at its place, the smaller before it. -/
structure Part (l : List TLook) (mid : Nat) (e : List TLook) : Prop where
  perm : e.Perm l
  lt : mid < l.length
  low : ∀ k, k < mid → (gt e k).fID < (gt e mid).fID
  high : ∀ k, mid < k → k < l.length → ¬ (gt e k).fID < (gt e mid).fID
section
variable {l : List TLook} {cmp : TLook → TLook → Option Int} {c : TLook → TLook → Int}
/-- The pivot goes to its place. -/
theorem part_last {d : List TLook} {j : Nat} (hp : d.Perm l) (hj : j < l.length) (hlo : ∀ k, 1 ≤ k → k ≤ j → (gt d k).fID < (gt d 0).fID) (hhi : ∀ k, j < k → k < l.length → ¬ (gt d k).fID < (gt d 0).fID) : Part l j (swp d j 0) := by
  have hl : d.length = l.length := hp.length_eq
  have h0 : 0 < d.length := by omega
  have hm : gt (swp d j 0) j = gt d 0 := by
    rw [gt_swp (by omega) h0 (by omega)]
    by_cases e : 0 = j
    · rw [if_pos e, ← e]
    · rw [if_neg e, if_pos rfl]
  refine ⟨(swp_perm (by omega) h0).trans hp, hj, fun k hk => ?_, fun k hk1 hk2 => ?_⟩
  · rw [hm, gt_swp (by omega) h0 (by omega)]
    by_cases e : 0 = k
    · rw [if_pos e]; exact hlo j (by omega) (Nat.le_refl _)
    · rw [if_neg e, if_neg (by omega)]; exact hlo k (by omega) (by omega)
  · rw [hm, gt_swp (by omega) h0 (by omega), if_neg (by omega), if_neg (by omega)]
    exact hhi k hk1 hk2
theorem partition_ok (hn : l.length < 1000000) (hc : ∀ x y, x ∈ l → y ∈ l → cmp x y = some (c x y) ∧ (c x y < 0 ↔ x.fID < y.fID)) {p : Nat} (hp : p < l.length) :
    ∃ (mid : Nat) (b : Bool) (e : List TLook), slices_partitionCmpFunc_calx_api_Look l 0 (l.length : Int) (p : Int) cmp = some ((mid : Int), b, e) ∧ Part l mid e := by
  have h0 : 0 < l.length := by omega
  have g : ∀ k : Nat, k < l.length → (0 : Int) ≤ (k : Int) ∧ (k : Int) < ((l.length : Nat) : Int) := fun k hk => by omega
  have g0 : (0 : Int) ≤ 0 ∧ (0 : Int) < ((l.length : Nat) : Int) := by omega
  have hcmp : ∀ (d : List TLook), d.Perm l → ∀ k, k < l.length → cmp (gt d k) (gt d 0) = some (c (gt d k) (gt d 0)) ∧ (c (gt d k) (gt d 0) < 0 ↔ (gt d k).fID < (gt d 0).fID) := fun d hd k hk => hc _ _ (hd.mem_iff.1 (gt_mem (by rw [hd.length_eq]; exact hk))) (hd.mem_iff.1 (gt_mem (by rw [hd.length_eq]; exact h0)))
  have hw : w64 ((l.length : Int) - 1) = ((l.length - 1 : Nat) : Int) := by rw [w64_id (by omega) (by omega)]; omega
  have hs1 : w64 ((0 : Int) + 1) = ((1 : Nat) : Int) := by decide
  have hd0 : (swp l 0 p).Perm l := swp_perm h0 hp
  unfold slices_partitionCmpFunc_calx_api_Look
  rw [guardO_pos (g p hp), guardO_pos g0, guardO_pos g0, guardO_pos (g p hp)]
  simp only [rdL_gt, rdL_gt0, Int.toNat_natCast, show Int.toNat 0 = 0 from rfl]
  rw [show (l.set 0 (gt l p)).set p (gt l 0) = swp l 0 p from rfl]
  generalize hdd : swp l 0 p = d at *
  have hdl : d.length = l.length := hd0.length_eq
  -- up
  obtain ⟨i, i1, i2, i3, i4, i5⟩ := scanUp (body := slices_partitionCmpFunc_calx_api_Look_l1 l 0 (l.length : Int) (p : Int) cmp) (fun k => lt (gt d k) (gt d 0)) l.length _ 1 rfl (by omega) (by
    intro k hk1 hk2
    unfold slices_partitionCmpFunc_calx_api_Look_l1
    simp only [rdL_gt, rdL_gt0, Int.toNat_natCast, show Int.toNat 0 = 0 from rfl]
    rw [show (l.set 0 (gt l p)).set p (gt l 0) = swp l 0 p from rfl, hdd, ite_t (by rw [hw]; omega), guardO_pos (g k hk2), guardO_pos g0, (hcmp d hd0 k hk2).1]
    simp only [Option.bind_some]
    rw [dec_lt (hcmp d hd0 k hk2).2, w64_succ (by omega)]
    by_cases h : lt (gt d k) (gt d 0)
    · left; exact ⟨h, by rw [if_pos (decide_eq_true h)]⟩
    · right; exact ⟨h, by rw [if_neg (by rw [decide_eq_false h]; exact Bool.false_ne_true)]⟩) (by
    unfold slices_partitionCmpFunc_calx_api_Look_l1
    rw [ite_f (by rw [hw]; omega)]
    rfl)
  rw [hs1, i3, Option.bind_some]
  -- down
  obtain ⟨j, j1, j2, j3, j4, j5⟩ := scanDown (body := slices_partitionCmpFunc_calx_api_Look_l2 l 0 (p : Int) cmp (i : Int)) (fun k => ¬ lt (gt d k) (gt d 0)) i i1 _ (l.length - 1) rfl (by omega) (by
    intro k hk1 hk2
    unfold slices_partitionCmpFunc_calx_api_Look_l2
    simp only [rdL_gt, rdL_gt0, Int.toNat_natCast, show Int.toNat 0 = 0 from rfl]
    rw [show (l.set 0 (gt l p)).set p (gt l 0) = swp l 0 p from rfl, hdd, ite_t (by omega), guardO_pos (g k (by omega)), guardO_pos g0, (hcmp d hd0 k (by omega)).1]
    simp only [Option.bind_some]
    rw [dec_lt (hcmp d hd0 k (by omega)).2, show w64 ((k : Int) - 1) = ((k - 1 : Nat) : Int) by rw [w64_id (by omega) (by omega)]; omega]
    by_cases h : lt (gt d k) (gt d 0)
    · right; exact ⟨fun h2 => h2 h, by rw [decide_eq_true h, if_neg (by decide)]⟩
    · left; exact ⟨h, by rw [decide_eq_false h, if_pos (by decide)]⟩) (by
    unfold slices_partitionCmpFunc_calx_api_Look_l2
    rw [ite_f (by omega)]
    rfl)
  rw [hw, j3, Option.bind_some]
  by_cases hji : j < i
  · rw [ite_t (by omega), guardO_pos g0, guardO_pos (g j (by omega)), guardO_pos (g j (by omega)), guardO_pos g0]
    refine ⟨j, true, swp d j 0, rfl, part_last hd0 (by omega) (fun k hk1 hk2 => i4 k hk1 (by omega)) (fun k hk1 hk2 => j4 k hk1 (by omega))⟩
  rw [ite_f (by omega), guardO_pos (g j (by omega)), guardO_pos (g i (by omega)), guardO_pos (g i (by omega)), guardO_pos (g j (by omega))]
  have hij : i < j := by
    rcases Nat.lt_or_ge i j with h | h
    · exact h
    · have e : i = j := by omega
      subst e
      exact absurd (Decidable.of_not_not (j5 (Nat.le_refl _))) (i5 (by omega))
  have hqi : ¬ lt (gt d i) (gt d 0) := i5 (by omega)
  have hqj : lt (gt d j) (gt d 0) := Decidable.of_not_not (j5 (by omega))
  simp only [rdL_gt, Int.toNat_natCast]
  rw [show (d.set i (gt d j)).set j (gt d i) = swp d i j from rfl]
  have hinv := loopO_inv (body := slices_partitionCmpFunc_calx_api_Look_l3 l 0 cmp)
    (fun st => ∃ (a b : Nat) (e : List TLook), st = ((a : Int), (b : Int), e) ∧ e.Perm l ∧ 1 ≤ a ∧ a ≤ b + 1 ∧ b < l.length ∧ (∀ k, 1 ≤ k → k < a → lt (gt e k) (gt e 0)) ∧ ∀ k, b < k → k < l.length → ¬ lt (gt e k) (gt e 0))
    (fun _ t => ∃ (b : Nat) (e : List TLook), t.2.1 = (b : Int) ∧ t.2.2 = e ∧ e.Perm l ∧ b < l.length ∧ (∀ k, 1 ≤ k → k ≤ b → lt (gt e k) (gt e 0)) ∧ ∀ k, b < k → k < l.length → ¬ lt (gt e k) (gt e 0)) (fun st => (st.2.1 + 2 - st.1).toNat) (by
      rintro _ ⟨a, b, e, rfl, he, ha1, hab, hb, hlo, hhi⟩
      have hel : e.length = l.length := he.length_eq
      unfold slices_partitionCmpFunc_calx_api_Look_l3
      dsimp only
      obtain ⟨i', a1, a2, a3, a4, a5⟩ := scanUp (body := slices_partitionCmpFunc_calx_api_Look_l4 l 0 cmp ((a : Int), (b : Int), e)) (fun k => lt (gt e k) (gt e 0)) (b + 1) _ a rfl hab (by
        intro k hk1 hk2
        unfold slices_partitionCmpFunc_calx_api_Look_l4
        simp only [rdL_gt, rdL_gt0]
        rw [ite_t (by omega), guardO_pos (g k (by omega)), guardO_pos g0, (hcmp e he k (by omega)).1]
        simp only [Option.bind_some]
        rw [dec_lt (hcmp e he k (by omega)).2, w64_succ (by omega)]
        by_cases h : lt (gt e k) (gt e 0)
        · left; exact ⟨h, by rw [if_pos (decide_eq_true h)]⟩
        · right; exact ⟨h, by rw [if_neg (by rw [decide_eq_false h]; exact Bool.false_ne_true)]⟩) (by
        unfold slices_partitionCmpFunc_calx_api_Look_l4
        dsimp only
        rw [ite_f (by omega)]
        rfl)
      rw [a3, Option.bind_some]
      obtain ⟨j', b1, b2, b3, b4, b5⟩ := scanDown (body := slices_partitionCmpFunc_calx_api_Look_l5 l 0 cmp ((a : Int), (b : Int), e) (i' : Int)) (fun k => ¬ lt (gt e k) (gt e 0)) i' (by omega) _ b rfl a2 (by
        intro k hk1 hk2
        unfold slices_partitionCmpFunc_calx_api_Look_l5
        simp only [rdL_gt, rdL_gt0]
        rw [ite_t (by omega), guardO_pos (g k (by omega)), guardO_pos g0, (hcmp e he k (by omega)).1]
        simp only [Option.bind_some]
        rw [dec_lt (hcmp e he k (by omega)).2, show w64 ((k : Int) - 1) = ((k - 1 : Nat) : Int) by rw [w64_id (by omega) (by omega)]; omega]
        by_cases h : lt (gt e k) (gt e 0)
        · right; exact ⟨fun h2 => h2 h, by rw [decide_eq_true h, if_neg (by decide)]⟩
        · left; exact ⟨h, by rw [decide_eq_false h, if_pos (by decide)]⟩) (by
        unfold slices_partitionCmpFunc_calx_api_Look_l5
        rw [ite_f (by omega)]
        rfl)
      rw [b3, Option.bind_some]
      have hlo' : ∀ k, 1 ≤ k → k < i' → lt (gt e k) (gt e 0) := fun k h1 h2 => by
        rcases Nat.lt_or_ge k a with h | h
        · exact hlo k h1 h
        · exact a4 k h h2
      have hhi' : ∀ k, j' < k → k < l.length → ¬ lt (gt e k) (gt e 0) := fun k h1 h2 => by
        rcases Nat.lt_or_ge b k with h | h
        · exact hhi k h h2
        · exact b4 k h1 h
      by_cases hji : j' < i'
      · refine .inr ⟨((i' : Int), (j' : Int), e), by rw [ite_t (by omega)], j', e, rfl, rfl, he, by omega, fun k h1 h2 => hlo' k h1 (by omega), hhi'⟩
      · have hqi : ¬ lt (gt e i') (gt e 0) := a5 (by omega)
        have hqj : lt (gt e j') (gt e 0) := Decidable.of_not_not (b5 (by omega))
        have hij : i' < j' := by
          rcases Nat.lt_or_ge i' j' with h | h
          · exact h
          · have e : i' = j' := by omega
            subst e
            exact absurd hqj hqi
        have hz : gt (swp e i' j') 0 = gt e 0 := by rw [gt_swp (by omega) (by omega) (by omega), if_neg (by omega), if_neg (by omega)]
        refine .inl ⟨((i' + 1 : Nat), (j' - 1 : Nat), swp e i' j'), ?_, ⟨i' + 1, j' - 1, swp e i' j', rfl, (swp_perm (by omega) (by omega)).trans he, by omega, by omega, by omega, ?_, ?_⟩, ?_, fun t h => h⟩
        · rw [ite_f (by omega), guardO_pos (g j' (by omega)), guardO_pos (g i' (by omega)), guardO_pos (g i' (by omega)), guardO_pos (g j' (by omega)), w64_succ (by omega), show w64 ((j' : Int) - 1) = ((j' - 1 : Nat) : Int) by rw [w64_id (by omega) (by omega)]; omega]
          simp only [rdL_gt, Int.toNat_natCast]
          rfl
        · intro k h1 h2
          rw [hz, gt_swp (by omega) (by omega) (by omega), if_neg (by omega)]
          by_cases ek : i' = k
          · rw [if_pos ek]; exact hqj
          · rw [if_neg ek]; exact hlo' k h1 (by omega)
        · intro k h1 h2
          rw [hz, gt_swp (by omega) (by omega) (by omega)]
          by_cases ek : j' = k
          · rw [if_pos ek]; exact hqi
          · rw [if_neg ek, if_neg (by omega)]; exact hhi' k (by omega) h2
        · dsimp only
          omega) (w64 ((i : Int) + 1), w64 ((j : Int) - 1), swp d i j) (by
      have hz : gt (swp d i j) 0 = gt d 0 := by rw [gt_swp (by omega) (by omega) (by omega), if_neg (by omega), if_neg (by omega)]
      refine ⟨i + 1, j - 1, swp d i j, by rw [w64_succ (by omega), show w64 ((j : Int) - 1) = ((j - 1 : Nat) : Int) by rw [w64_id (by omega) (by omega)]; omega], (swp_perm (by omega) (by omega)).trans hd0, by omega, by omega, by omega, ?_, ?_⟩
      · intro k h1 h2
        rw [hz, gt_swp (by omega) (by omega) (by omega), if_neg (by omega)]
        by_cases ek : i = k
        · rw [if_pos ek]; exact hqj
        · rw [if_neg ek]; exact i4 k h1 (by omega)
      · intro k h1 h2
        rw [hz, gt_swp (by omega) (by omega) (by omega)]
        by_cases ek : j = k
        · rw [if_pos ek]; exact hqi
        · rw [if_neg ek, if_neg (by omega)]; exact j4 k (by omega) (by omega))
  obtain ⟨⟨ta, tb, te⟩, h1, b, e, hb1, hb2, he, hbl, hlo, hhi⟩ := hinv
  dsimp only at hb1 hb2
  subst hb1 hb2
  rw [h1, Option.bind_some]
  dsimp only
  rw [guardO_pos g0, guardO_pos (g b hbl), guardO_pos (g b hbl), guardO_pos g0]
  simp only [rdL_gt, Int.toNat_natCast]
  exact ⟨b, false, swp te b 0, rfl, part_last he hbl hlo hhi⟩
/-- The looks stand in order already, or it says so. -/
theorem partial_ok (hn : l.length = 13) (hc : ∀ x y, x ∈ l → y ∈ l → cmp x y = some (c x y) ∧ (c x y < 0 ↔ x.fID < y.fID)) (hd : (l.map (·.fID)).Nodup) :
    ∃ b : Bool, slices_partialInsertionSortCmpFunc_calx_api_Look l 0 13 cmp = some (b, l) ∧ (b = true → Sorted l) := by
  have g : ∀ k : Nat, k < l.length → (0 : Int) ≤ (k : Int) ∧ (k : Int) < ((l.length : Nat) : Int) := fun k hk => by omega
  obtain ⟨i, i1, i2, i3, i4, i5⟩ := scanUp (body := slices_partialInsertionSortCmpFunc_calx_api_Look_l2 l 13 cmp) (fun k => ¬ lt (gt l k) (gt l (k - 1))) 13 _ 1 rfl (by omega) (by
    intro k hk1 hk2
    have hk : w64 ((k : Int) - 1) = ((k - 1 : Nat) : Int) := by rw [w64_id (by omega) (by omega)]; omega
    have h1 := hc _ _ (gt_mem (d := l) (k := k) (by omega)) (gt_mem (d := l) (k := k - 1) (by omega))
    unfold slices_partialInsertionSortCmpFunc_calx_api_Look_l2
    simp only [hk, rdL_gt]
    rw [ite_t (by omega), guardO_pos (g k (by omega)), guardO_pos (g (k - 1) (by omega)), h1.1]
    simp only [Option.bind_some]
    rw [dec_lt h1.2, w64_succ (by omega)]
    by_cases h : lt (gt l k) (gt l (k - 1))
    · right; exact ⟨fun h2 => h2 h, by rw [decide_eq_true h, if_neg (by decide)]⟩
    · left; exact ⟨h, by rw [decide_eq_false h, if_pos (by decide)]⟩) (by
    unfold slices_partialInsertionSortCmpFunc_calx_api_Look_l2
    rw [ite_f (by decide)]
    rfl)
  have hb : slices_partialInsertionSortCmpFunc_calx_api_Look_l1 l 0 13 cmp (false, w64 (0 + 1), 0) = some (.inr (.inl (decide (i = 13), (i : Int), 0))) := by
    unfold slices_partialInsertionSortCmpFunc_calx_api_Look_l1
    dsimp only
    rw [ite_t (by decide), show w64 ((0 : Int) + 1) = ((1 : Nat) : Int) by decide, i3, Option.bind_some]
    by_cases e : i = 13
    · subst e; rfl
    · rw [if_neg (by rw [beq_iff_eq]; omega), guardO_pos (decide_eq_true (by decide)), decide_eq_false e]
  refine ⟨decide (i = 13), ?_, fun h => ?_⟩
  · unfold slices_partialInsertionSortCmpFunc_calx_api_Look
    rw [loopO_stop hb]
    rfl
  · have hi : i = 13 := of_decide_eq_true h
    subst hi
    rw [List.nodup_iff_pairwise_ne, List.pairwise_map] at hd
    have key : ∀ m, 1 ≤ m → m ≤ 13 → Sorted (l.take m) := by
      intro m hm
      induction m with
      | zero => omega
      | succ m ih =>
        intro hm2
        rw [List.take_succ_eq_append_getElem (by omega)]
        by_cases e : m = 0
        · subst e; simp [Sorted]
        have h1 := ih (by omega) (by omega)
        have h2 := i4 m (by omega) (by omega)
        have h3 : (gt l (m - 1)).fID < (gt l m).fID := by
          have h4 : (gt l (m - 1)).fID ≠ (gt l m).fID := by
            rw [gt_get (by omega), gt_get (by omega)]
            exact List.pairwise_iff_getElem.1 hd (m - 1) m (by omega) (by omega) (by omega)
          unfold lt at h2
          omega
        rw [gt_get (by omega), gt_get (by omega)] at h3
        refine List.pairwise_append.2 ⟨h1, List.pairwise_singleton _ _, fun x hx y hy => ?_⟩
        rw [List.mem_singleton.1 hy]
        obtain ⟨k, hk, rfl⟩ := List.mem_iff_getElem.1 hx
        rw [List.length_take] at hk
        rw [List.getElem_take]
        by_cases ek : k = m - 1
        · subst ek; exact h3
        · have := List.pairwise_iff_getElem.1 h1 k (m - 1) (by rw [List.length_take]; omega) (by rw [List.length_take]; omega) (by omega)
          rw [List.getElem_take, List.getElem_take] at this
          omega
    have := key 13 (by omega) (by omega)
    rwa [List.take_of_length_le (by omega)] at this
theorem order2_ok (hc : ∀ x y, x ∈ l → y ∈ l → cmp x y = some (c x y) ∧ (c x y < 0 ↔ x.fID < y.fID)) {a b v : Nat} (ha : a < l.length) (hb : b < l.length) (hv : v < 100) :
    ∃ x y w : Nat, slices_order2CmpFunc_calx_api_Look l (a : Int) (b : Int) (v : Int) cmp = some ((x : Int), (y : Int), (w : Int)) ∧ x < l.length ∧ y < l.length ∧ w ≤ v + 1 := by
  unfold slices_order2CmpFunc_calx_api_Look
  rw [guardO_pos (by omega), guardO_pos (by omega), rdL_gt, rdL_gt, (hc _ _ (gt_mem hb) (gt_mem ha)).1, Option.bind_some]
  by_cases h : c (gt l b) (gt l a) < 0
  · rw [ite_t h, w64_succ (by omega)]
    exact ⟨b, a, v + 1, rfl, hb, ha, Nat.le_refl _⟩
  · rw [ite_f h]
    exact ⟨a, b, v, rfl, ha, hb, by omega⟩
theorem pivot_ok (hn : l.length = 13) (hc : ∀ x y, x ∈ l → y ∈ l → cmp x y = some (c x y) ∧ (c x y < 0 ↔ x.fID < y.fID)) :
    ∃ (p : Nat) (h : Int), slices_choosePivotCmpFunc_calx_api_Look l 0 13 cmp = some ((p : Int), h) ∧ p < l.length ∧ (h == 2) = false := by
  unfold slices_choosePivotCmpFunc_calx_api_Look
  rw [ite_t (by decide), guardO_pos (decide_eq_false (by decide))]
  rw [show w64 (0 + w64 (w64 (Int.tdiv (w64 (13 - 0)) 4) * 1)) = ((3 : Nat) : Int) by decide, show w64 (0 + w64 (w64 (Int.tdiv (w64 (13 - 0)) 4) * 2)) = ((6 : Nat) : Int) by decide, show w64 (0 + w64 (w64 (Int.tdiv (w64 (13 - 0)) 4) * 3)) = ((9 : Nat) : Int) by decide]
  unfold slices_medianCmpFunc_calx_api_Look
  obtain ⟨x, y, w, h1, h2, h3, h4⟩ := order2_ok (l := l) hc (a := 3) (b := 6) (v := 0) (by omega) (by omega) (by omega)
  rw [show ((0 : Nat) : Int) = 0 from rfl] at h1
  rw [h1, Option.bind_some]
  dsimp only
  obtain ⟨x2, y2, w2, k1, k2, k3, k4⟩ := order2_ok (l := l) hc (a := y) (b := 9) (v := w) (by omega) (by omega) (by omega)
  rw [k1, Option.bind_some]
  dsimp only
  obtain ⟨x3, y3, w3, m1, m2, m3, m4⟩ := order2_ok (l := l) hc (a := x) (b := x2) (v := w2) (by omega) (by omega) (by omega)
  rw [m1, Option.bind_some, Option.bind_some]
  dsimp only
  by_cases e : w3 = 0
  · subst e; exact ⟨y3, 1, rfl, m3, rfl⟩
  · rw [if_neg (by rw [beq_iff_eq]; omega), if_neg (by rw [beq_iff_eq]; omega)]
    exact ⟨y3, 0, rfl, m3, rfl⟩
/-- The level below: a range of twelve at most. -/
theorem pdq0 {d s : List TLook} {a b v : Int} (h : w64 (b - a) ≤ 12) (hs : slices_insertionSortCmpFunc_calx_api_Look d a b cmp = some s) : slices_pdqsortCmpFunc_calx_api_Look_0 d a b v cmp = some s := by
  unfold slices_pdqsortCmpFunc_calx_api_Look_0
  have hb : slices_pdqsortCmpFunc_calx_api_Look_0_l1 cmp (a, b, v, true, true, d) = some (.inr (a, b, v, true, true, s)) := by
    unfold slices_pdqsortCmpFunc_calx_api_Look_0_l1; dsimp only
    rw [guardO_pos (decide_eq_true h), hs, Option.bind_some]
  rw [loopO_stop hb]
  rfl
theorem pdq1 {l0 d s : List TLook} {a b v : Int} {p q : Bool} (h : w64 (b - a) ≤ 12) (hs : slices_insertionSortCmpFunc_calx_api_Look d a b cmp = some s) : slices_pdqsortCmpFunc_calx_api_Look_l1 l0 cmp (a, b, v, p, q, d) = some (.inr (a, b, v, p, q, s)) := by
  unfold slices_pdqsortCmpFunc_calx_api_Look_l1; dsimp only
  rw [ite_t h, hs, Option.bind_some]
/-- What stands behind a partition. -/
theorem part_split {mid : Nat} {e : List TLook} (h : Part l mid e) (hd : (l.map (·.fID)).Nodup) : ∃ (A B : List TLook) (x : TLook), e = A ++ (x :: B) ∧ A.length = mid ∧ mid + (1 + B.length) = l.length ∧ (∀ y ∈ A, y.fID < x.fID) ∧ (∀ y ∈ B, x.fID < y.fID) := by
  have hl : e.length = l.length := h.perm.length_eq
  have hm : mid < e.length := by rw [hl]; exact h.lt
  refine ⟨e.take mid, e.drop (mid + 1), e[mid], ?_, by rw [List.length_take]; omega, by rw [List.length_drop]; omega, fun y hy => ?_, fun y hy => ?_⟩
  · rw [← List.drop_eq_getElem_cons hm, List.take_append_drop]
  · obtain ⟨k, hk, rfl⟩ := List.mem_iff_getElem.1 hy
    rw [List.length_take] at hk
    rw [List.getElem_take]
    have := h.low k (by omega)
    rwa [gt_get (by omega), gt_get hm] at this
  · obtain ⟨k, hk, rfl⟩ := List.mem_iff_getElem.1 hy
    rw [List.length_drop] at hk
    rw [List.getElem_drop]
    have h1 := h.high (mid + 1 + k) (by omega) (by omega)
    rw [gt_get (by omega), gt_get hm] at h1
    have hd2 : (e.map (·.fID)).Nodup := (h.perm.map (·.fID)).nodup_iff.2 hd
    rw [List.nodup_iff_pairwise_ne, List.pairwise_map] at hd2
    have h2 := List.pairwise_iff_getElem.1 hd2 mid (mid + 1 + k) hm (by omega) (by omega)
    omega
theorem sorted_glue {A B sa sb : List TLook} {x : TLook} (ha : sa.Perm A) (hb : sb.Perm B) (h1 : Sorted sa) (h2 : Sorted sb) (hA : ∀ y ∈ A, y.fID < x.fID) (hB : ∀ y ∈ B, x.fID < y.fID) : Sorted (sa ++ (x :: sb)) := by
  refine List.pairwise_append.2 ⟨h1, List.pairwise_cons.2 ⟨fun y hy => hB y (hb.mem_iff.1 hy), h2⟩, fun y hy z hz => ?_⟩
  have h3 := hA y (ha.mem_iff.1 hy)
  rcases List.mem_cons.1 hz with rfl | hz
  · exact h3
  · have := hB z (hb.mem_iff.1 hz); omega
end
theorem nodup_app {A B : List TLook} (h : ((A ++ B).map (·.fID)).Nodup) : (A.map (·.fID)).Nodup ∧ (B.map (·.fID)).Nodup := by
  rw [List.map_append, List.nodup_append] at h
  exact ⟨h.1, h.2.1⟩
theorem pdq13 {l : List TLook} (hl : l.length = 13) {cmp : TLook → TLook → Option Int} (c : TLook → TLook → Int) (hc : ∀ x y, x ∈ l → y ∈ l → cmp x y = some (c x y) ∧ (c x y < 0 ↔ x.fID < y.fID)) (hd : (l.map (·.fID)).Nodup) {v : Int} (hv : (v == 0) = false) :
    ∃ s, slices_pdqsortCmpFunc_calx_api_Look l 0 13 v cmp = some s ∧ s.Perm l ∧ Sorted s := by
  obtain ⟨p, hint, h1, h2, h3⟩ := pivot_ok hl hc
  obtain ⟨mid, bb, e, p1, p2⟩ := partition_ok (l := l) (by omega) hc h2
  have p1' : slices_partitionCmpFunc_calx_api_Look l 0 13 (p : Int) cmp = some ((mid : Int), bb, e) := by rw [← p1, hl]; rfl
  obtain ⟨A, B, x, rfl, hA, hlen, hlo, hhi⟩ := part_split p2 hd
  have hmem : ∀ z ∈ A ++ x :: B, z ∈ l := fun z hz => p2.perm.mem_iff.1 hz
  have hd2 : ((A ++ x :: B).map (·.fID)).Nodup := (p2.perm.map (·.fID)).nodup_iff.2 hd
  have hdA := (nodup_app hd2).1
  have hdB := (nodup_app (A := [x]) (nodup_app hd2).2).2
  have hcA : ∀ a b, a ∈ A → b ∈ A → cmp a b = some (c a b) ∧ (c a b < 0 ↔ a.fID < b.fID) := fun a b ha hb => hc a b (hmem a (by simp [ha])) (hmem b (by simp [hb]))
  have hcB : ∀ a b, a ∈ B → b ∈ B → cmp a b = some (c a b) ∧ (c a b < 0 ↔ a.fID < b.fID) := fun a b ha hb => hc a b (hmem a (by simp [ha])) (hmem b (by simp [hb]))
  -- what remains behind the partition
  have tail : ∃ (q1 q2 : Bool) (a b : Int) (d s : List TLook), (if decide (w64 ((mid : Int) - 0) < w64 (13 - (mid : Int))) = true then ((slices_pdqsortCmpFunc_calx_api_Look_0 (A ++ x :: B) 0 (mid : Int) v cmp).bind fun y29 => some (Sum.inl (β := Int × Int × Int × Bool × Bool × List TLook) (w64 ((mid : Int) + 1), (13 : Int), v, decide (w64 (Int.tdiv (w64 (13 - 0)) 8) ≤ w64 ((mid : Int) - 0)), bb, y29))) else ((slices_pdqsortCmpFunc_calx_api_Look_0 (A ++ x :: B) (w64 ((mid : Int) + 1)) 13 v cmp).bind fun y32 => some (.inl (0, (mid : Int), v, decide (w64 (Int.tdiv (w64 (13 - 0)) 8) ≤ w64 (13 - (mid : Int))), bb, y32)))) = some (.inl (a, b, v, q1, q2, d)) ∧ slices_pdqsortCmpFunc_calx_api_Look_l1 l cmp (a, b, v, q1, q2, d) = some (.inr (a, b, v, q1, q2, s)) ∧ s.Perm l ∧ Sorted s := by
    have hw1 : w64 ((mid : Int) - 0) = (mid : Int) := by rw [w64_id (by omega) (by omega)]; omega
    have hw2 : w64 (13 - (mid : Int)) = 13 - (mid : Int) := by rw [w64_id (by omega) (by omega)]
    have hw3 : w64 ((mid : Int) + 1) = ((mid + 1 : Nat) : Int) := w64_succ (by omega)
    by_cases hlt : (mid : Int) < 13 - (mid : Int)
    · obtain ⟨sa, a1, a2, a3⟩ := insRange (P := []) (l := A) (E := x :: B) (n := 13) (by simp; omega) (by omega) c hcA hdA
      have a1' : slices_insertionSortCmpFunc_calx_api_Look (A ++ x :: B) 0 (mid : Int) cmp = some (sa ++ x :: B) := by
        simp only [List.nil_append, List.length_nil, Nat.zero_add, hA] at a1
        exact a1
      obtain ⟨sb, b1, b2, b3⟩ := insRange (P := sa ++ [x]) (l := B) (E := []) (n := 13) (by simp [a2.length_eq]; omega) (by omega) c hcB hdB
      have b1' : slices_insertionSortCmpFunc_calx_api_Look (sa ++ x :: B) ((mid + 1 : Nat) : Int) 13 cmp = some (sa ++ x :: sb) := by
        simp only [List.append_nil, List.append_assoc, List.cons_append, List.nil_append, List.length_append, List.length_cons, List.length_nil, a2.length_eq, hA] at b1
        rw [show ((mid + (0 + 1) + B.length : Nat) : Int) = 13 by omega] at b1
        exact b1
      refine ⟨decide (w64 (Int.tdiv (w64 (13 - 0)) 8) ≤ w64 ((mid : Int) - 0)), bb, _, _, _, sa ++ x :: sb, ?_, pdq1 (by rw [w64_id (by omega) (by omega)]; omega) b1', ?_, sorted_glue a2 b2 a3 b3 hlo hhi⟩
      · rw [hw1, hw2, ite_t hlt, pdq0 (by rw [w64_id (by omega) (by omega)]; omega) a1', Option.bind_some, hw3]
      · exact (List.Perm.append a2 (List.Perm.cons x b2)).trans p2.perm
    · obtain ⟨sb, b1, b2, b3⟩ := insRange (P := A ++ [x]) (l := B) (E := []) (n := 13) (by simp; omega) (by omega) c hcB hdB
      have b1' : slices_insertionSortCmpFunc_calx_api_Look (A ++ x :: B) ((mid + 1 : Nat) : Int) 13 cmp = some (A ++ x :: sb) := by
        simp only [List.append_nil, List.append_assoc, List.cons_append, List.nil_append, List.length_append, List.length_cons, List.length_nil, hA] at b1
        rw [show ((mid + (0 + 1) + B.length : Nat) : Int) = 13 by omega] at b1
        exact b1
      obtain ⟨sa, a1, a2, a3⟩ := insRange (P := []) (l := A) (E := x :: sb) (n := 13) (by simp [b2.length_eq]; omega) (by omega) c hcA hdA
      have a1' : slices_insertionSortCmpFunc_calx_api_Look (A ++ x :: sb) 0 (mid : Int) cmp = some (sa ++ x :: sb) := by
        simp only [List.nil_append, List.length_nil, Nat.zero_add, hA] at a1
        exact a1
      refine ⟨decide (w64 (Int.tdiv (w64 (13 - 0)) 8) ≤ w64 (13 - (mid : Int))), bb, _, _, _, sa ++ x :: sb, ?_, pdq1 (by rw [w64_id (by omega) (by omega)]; omega) a1', ?_, sorted_glue a2 b2 a3 b3 hlo hhi⟩
      · rw [hw1, hw2, ite_f hlt, hw3, pdq0 (by rw [w64_id (by omega) (by omega)]; omega) b1', Option.bind_some]
      · exact (List.Perm.append a2 (List.Perm.cons x b2)).trans p2.perm
  obtain ⟨q1, q2, a, b, d, s, t1, t2, t3, t4⟩ := tail
  unfold slices_pdqsortCmpFunc_calx_api_Look
  obtain ⟨pb, r1, r2⟩ := partial_ok hl hc hd
  by_cases hpart : ((true && true) && (hint == 1)) = true ∧ pb = true
  · obtain ⟨e1, rfl⟩ := hpart
    have hb : slices_pdqsortCmpFunc_calx_api_Look_l1 l cmp (0, 13, v, true, true, l) = some (.inr (0, 13, v, true, true, l)) := by
      unfold slices_pdqsortCmpFunc_calx_api_Look_l1; dsimp only
      rw [ite_f (by decide), guardO_pos hv, guardO_pos (show (!true) = false from rfl), h1, Option.bind_some]
      dsimp only
      rw [guardO_pos h3, if_pos e1, r1, Option.bind_some]
      dsimp only
      rw [if_pos rfl]
    rw [loopO_stop hb]
    exact ⟨l, rfl, List.Perm.refl _, r2 rfl⟩
  · have hb : slices_pdqsortCmpFunc_calx_api_Look_l1 l cmp (0, 13, v, true, true, l) = some (.inl (a, b, v, q1, q2, d)) := by
      rw [← t1]
      unfold slices_pdqsortCmpFunc_calx_api_Look_l1; dsimp only
      rw [ite_f (by decide), guardO_pos hv, guardO_pos (show (!true) = false from rfl), h1, Option.bind_some]
      dsimp only
      rw [guardO_pos h3]
      by_cases e1 : ((true && true) && (hint == 1)) = true
      · rw [if_pos e1, r1, Option.bind_some]
        dsimp only
        rw [if_neg (fun h => hpart ⟨e1, h⟩), ite_f (by decide)]
        dsimp only [Option.bind_some]
        rw [guardO_pos (show (false : Bool) = false from rfl), p1', Option.bind_some]
      · rw [if_neg e1, ite_f (by decide)]
        dsimp only [Option.bind_some]
        rw [guardO_pos (show (false : Bool) = false from rfl), p1', Option.bind_some]
    rw [loopO_next hb, loopO_stop t2]
    exact ⟨s, rfl, t3, t4⟩
theorem Len13 : math_bits_Len 13 = some 4 := by
  unfold math_bits_Len math_bits_Len64
  rw [guardO_pos (by omega)]
  rfl
theorem SortFunc_eq {l : List TLook} (hl : l.length ≤ 13) {cmp : TLook → TLook → Option Int} (c : TLook → TLook → Int) (hc : ∀ x y, x ∈ l → y ∈ l → cmp x y = some (c x y) ∧ (c x y < 0 ↔ x.fID < y.fID)) (hd : (l.map (·.fID)).Nodup) : slices_SortFunc_calx_api_Look_calx_api_Look l cmp = some (srt l) := by
  unfold slices_SortFunc_calx_api_Look_calx_api_Look
  rw [guardO_pos (by omega)]
  by_cases h13 : l.length = 13
  · obtain ⟨s, h1, h2, h3⟩ := pdq13 h13 c hc hd (v := 4) rfl
    have hs : s = srt l := Sorted_unique (h2.trans (srt_perm l).symm) h3 (srt_sorted hd)
    rw [show ((l.length : Nat) : Int) = 13 by omega, Len13, Option.bind_some, h1, hs]
    rfl
  obtain ⟨s, h1, h2, h3⟩ := insRange (P := []) (l := l) (E := []) rfl (by simp; omega) c hc hd
  obtain ⟨v, hv⟩ := Len_some (n := l.length) (by omega)
  have hs : s = srt l := Sorted_unique (h2.trans (srt_perm l).symm) h3 (srt_sorted hd)
  rw [hv, Option.bind_some]
  unfold slices_pdqsortCmpFunc_calx_api_Look
  simp only [List.nil_append, List.append_nil, List.length_nil, Nat.zero_add] at h1
  have hb := pdq1 (l0 := l) (cmp := cmp) (a := 0) (b := ((l.length : Nat) : Int)) (d := l) (s := s) (v := v) (p := true) (q := true) (by rw [w64_id (by omega) (by omega)]; omega) h1
  rw [loopO_stop hb, ← hs]
  rfl
theorem sorted_of {f : TFire} (hl : f.fLooks.length ≤ 13) (ho : ∀ x ∈ f.fLooks, OkLook x) (hd : (f.fLooks.map (·.fID)).Nodup) : fire_sorted f = some (srt f.fLooks) := by
  unfold fire_sorted slices_Values_calx_api_Look_calx_api_Look slices_SortedFunc_calx_api_Look
  rw [Collect_eq (by omega)]
  dsimp only [Option.bind_some]
  have h1 := SortFunc_eq hl (cmp := fun x5 x6 => fire_sorted_1 x5 x6) (fun x y => x.fID - y.fID) (fun x y hx hy => by
    have hx' := (ho x hx).1
    have hy' := (ho y hy).1
    refine ⟨?_, by omega⟩
    unfold fire_sorted_1
    rw [w64_id (by omega) (by omega)]) hd
  rw [h1]
  rfl
/-- What the walks of a fire ask: it is right, and has 13 looks at most. -/
def Ok12 (f : TFire) : Prop := OkF f ∧ f.fLooks.length ≤ 13
theorem sorted_eq {f : TFire} (h : Ok12 f) : fire_sorted f = some (srt f.fLooks) := sorted_of h.2 h.1.2.2.1 h.1.2.2.2
theorem seqLook_of {l : List TLook} (h : l.length ≤ 24) : seqLook_ok (srt l) := by unfold seqLook_ok; rw [srt_len]; omega
end Go.Proofs.Ytndajeiecdmhnaa
