/- Plain laws of fire: the looks by their IDs. No program in sight. -/
import Derived.Test.YtndajeiecdmhnaaGreatM2
set_option linter.unusedVariables false
namespace Go.Proofs.YtndajeiecdmhnaaGreat

theorem rdL_mid {α : Type} [Inhabited α] (A : List α) (x : α) (B : List α) (j : Int) (hj : j = (A.length : Int)) : rdL (A ++ x :: B) j = x := by
  subst hj
  unfold rdL
  rw [Int.toNat_natCast, List.getD_eq_getElem?_getD, List.getElem?_append_right (Nat.le_refl _), Nat.sub_self]
  rfl
theorem set_mid {α : Type} (A : List α) (x y : α) (B : List α) (j : Nat) (hj : j = A.length) : (A ++ x :: B).set j y = A ++ y :: B := by
  subst hj
  rw [List.set_append_right _ _ (Nat.le_refl _), Nat.sub_self]
  rfl
/-- One look is carried to the left. -/
theorem insL2 {n : Nat} {data0 : List TLook} (h0 : data0.length = n) (hn : n < 1000000) {cmp : TLook → TLook → Option Int} (c : TLook → TLook → Int) (S : TLook → Prop) (hc : ∀ x y, S x → S y → cmp x y = some (c x y) ∧ (c x y < 0 ↔ x.fID < y.fID)) (x : TLook) (hx : S x) :
    ∀ (k : Nat) (A1 T : List TLook), A1.length = k → A1.length + 1 + T.length = n → (∀ y ∈ A1, S y) → ∃ B1 B2 : List TLook, A1 = B1 ++ B2 ∧ loopO (slices_insertionSortCmpFunc_calx_api_Look_l2 data0 0 cmp) ((A1.length : Int), A1 ++ x :: T) = some ((B1.length : Int), B1 ++ x :: (B2 ++ T)) ∧ (∀ y ∈ B2, x.fID < y.fID) ∧ (∀ y, B1.getLast? = some y → ¬ x.fID < y.fID) := by
  intro k
  induction k with
  | zero =>
    intro A1 T hk hl hS
    have : A1 = [] := List.eq_nil_of_length_eq_zero hk
    subst this
    refine ⟨[], [], rfl, ?_, by simp, by simp⟩
    refine loopO_stop ?_
    unfold slices_insertionSortCmpFunc_calx_api_Look_l2; dsimp only
    rw [ite_f (by simp)]
    rfl
  | succ k ih =>
    intro A1 T hk hl hS
    obtain ⟨A, y, rfl⟩ : ∃ A y, A1 = A ++ [y] := ⟨A1.dropLast, A1.getLast (by intro h; rw [h] at hk; cases hk), (List.dropLast_concat_getLast _).symm⟩
    have hA : A.length = k := by simpa using hk
    have hlen : (A ++ [y] ++ x :: T).length = n := by simp at hl ⊢; omega
    simp only [List.length_append, List.length_cons, List.length_nil] at hl
    have hy : S y := hS y (by simp)
    have e1 : A ++ [y] ++ x :: T = A ++ y :: x :: T := by simp
    have hj1 : w64 (((A ++ [y]).length : Int) - 1) = (A.length : Int) := by rw [w64_id (by simp only [List.length_append, List.length_cons, List.length_nil]; omega) (by simp only [List.length_append, List.length_cons, List.length_nil]; omega)]; simp
    have r1 : rdL (A ++ [y] ++ x :: T) ((A ++ [y]).length : Int) = x := rdL_mid _ _ _ _ rfl
    have r2 : rdL (A ++ [y] ++ x :: T) (A.length : Int) = y := by rw [e1]; exact rdL_mid _ _ _ _ rfl
    obtain ⟨hc1, hc2⟩ := hc x y hx hy
    have g1 : (0 : Int) ≤ ((A ++ [y]).length : Int) ∧ ((A ++ [y]).length : Int) < ((data0.length : Nat) : Int) := by rw [h0]; simp; omega
    have g2 : (0 : Int) ≤ (A.length : Int) ∧ (A.length : Int) < ((data0.length : Nat) : Int) := by rw [h0]; omega
    have hd : decide ((0 : Int) < ((A ++ [y]).length : Int)) = true := decide_eq_true (by simp only [List.length_append, List.length_cons, List.length_nil]; omega)
    have step : slices_insertionSortCmpFunc_calx_api_Look_l2 data0 0 cmp (((A ++ [y]).length : Int), A ++ [y] ++ x :: T) = if x.fID < y.fID then some (.inl ((A.length : Int), A ++ x :: ([y] ++ T))) else some (.inr (((A ++ [y]).length : Int), A ++ [y] ++ x :: T)) := by
      unfold slices_insertionSortCmpFunc_calx_api_Look_l2; dsimp only
      simp only [hj1, r1, r2, hd, if_true, guardO_pos g1, guardO_pos g2, TLook_eta, hc1, Option.bind_some]
      by_cases hlt : x.fID < y.fID
      · rw [if_pos (decide_eq_true (hc2.2 hlt)), if_pos hlt]
        refine congrArg some (congrArg Sum.inl (Prod.ext rfl ?_))
        show ((A ++ [y] ++ x :: T).set (Int.toNat ((A ++ [y]).length : Int)) y).set (Int.toNat (A.length : Int)) x = _
        rw [Int.toNat_natCast, Int.toNat_natCast, set_mid (A ++ [y]) x y T _ rfl, List.append_assoc]
        exact set_mid A y x (y :: T) _ rfl
      · rw [if_neg (by rw [decide_eq_true_eq]; exact fun h => hlt (hc2.1 h)), if_neg hlt]
    by_cases hlt : x.fID < y.fID
    · rw [if_pos hlt] at step
      obtain ⟨B1, B2, hB, hr, h2, h3⟩ := ih A ([y] ++ T) hA (by simp; omega) (fun z hz => hS z (by simp [hz]))
      refine ⟨B1, B2 ++ [y], by rw [hB, List.append_assoc], ?_, ?_, h3⟩
      · rw [loopO_next step, hr]
        simp
      · intro z hz
        rcases List.mem_append.1 hz with hz | hz
        · exact h2 z hz
        · rw [List.mem_singleton.1 hz]; exact hlt
    · rw [if_neg hlt] at step
      refine ⟨A ++ [y], [], by simp, ?_, by simp, ?_⟩
      · rw [loopO_stop step]; rfl
      · intro z hz
        simp at hz
        rw [← hz]
        exact hlt
def Sorted (l : List TLook) : Prop := l.Pairwise (fun a b => a.fID < b.fID)
/-- Insertion sort. -/
theorem insSort {l : List TLook} {n : Nat} (hl : l.length = n) (hn : n < 1000000) {cmp : TLook → TLook → Option Int} (c : TLook → TLook → Int) (hc : ∀ x y, x ∈ l → y ∈ l → cmp x y = some (c x y) ∧ (c x y < 0 ↔ x.fID < y.fID)) (hd : (l.map (·.fID)).Nodup) :
    ∃ s, slices_insertionSortCmpFunc_calx_api_Look l 0 (n : Int) cmp = some s ∧ s.Perm l ∧ Sorted s := by
  unfold slices_insertionSortCmpFunc_calx_api_Look
  by_cases hnil : l = []
  · subst hnil
    simp at hl
    subst hl
    refine ⟨[], ?_, List.Perm.refl _, List.Pairwise.nil⟩
    rw [loopO_stop (t := (w64 (0 + 1), [])) (by
      unfold slices_insertionSortCmpFunc_calx_api_Look_l1; dsimp only
      rw [ite_f (by decide)])]
    rfl
  have hinv := loopO_inv (body := slices_insertionSortCmpFunc_calx_api_Look_l1 l 0 (n : Int) cmp)
    (fun st => ∃ A R, st = (((A.length : Nat) : Int), A ++ R) ∧ (A ++ R).Perm l ∧ Sorted A ∧ A.length ≤ n + 1 ∧ (A.length ≤ n ∨ R = []))
    (fun _ t => t.2.Perm l ∧ Sorted t.2) (fun st => (n : Int).toNat + 1 - st.1.toNat) (by
      rintro _ ⟨A, R, rfl, hp, hs, hle, _⟩
      have hlen : A.length + R.length = n := by have := hp.length_eq; rw [List.length_append] at this; omega
      cases R with
      | nil =>
        refine .inr ⟨(((A.length : Nat) : Int), A ++ []), ?_, ?_⟩
        · unfold slices_insertionSortCmpFunc_calx_api_Look_l1; dsimp only
          rw [ite_f (by simp at hlen; omega)]
        · dsimp only
          rw [List.append_nil] at hp ⊢
          exact ⟨hp, hs⟩
      | cons x T =>
        simp only [List.length_cons] at hlen
        refine .inl ?_
        have hmem : ∀ z ∈ A ++ x :: T, z ∈ l := fun z hz => hp.mem_iff.1 hz
        obtain ⟨B1, B2, hB, hr, h2, h3⟩ := insL2 (data0 := l) hl hn c (fun z => z ∈ l) hc x (hmem x (by simp)) A.length A T rfl (by omega) (fun y hy => hmem y (by simp [hy]))
        refine ⟨(((A.length + 1 : Nat) : Int), B1 ++ x :: (B2 ++ T)), ?_, ⟨B1 ++ x :: B2, T, ?_, ?_, ?_, ?_, ?_⟩, ?_, fun t h => h⟩
        · unfold slices_insertionSortCmpFunc_calx_api_Look_l1; dsimp only
          rw [ite_t (by omega), hr, Option.bind_some, w64_succ (by omega)]
        · simp [hB]; omega
        · refine List.Perm.trans ?_ hp
          rw [hB]
          simp only [List.append_assoc, List.cons_append]
          exact List.Perm.append_left B1 (by
            have : (x :: (B2 ++ T)).Perm (B2 ++ x :: T) := (List.perm_middle).symm
            exact this)
        · unfold Sorted at hs ⊢
          rw [hB, List.pairwise_append] at hs
          rw [List.pairwise_append]
          obtain ⟨s1, s2, s3⟩ := hs
          have hne : ∀ y ∈ B1, y.fID < x.fID := by
            intro y hy
            have hlast : ∀ z, B1.getLast? = some z → z.fID < x.fID := by
              intro z hz
              have h4 := h3 z hz
              have hzm : z ∈ B1 := List.mem_of_getLast? hz
              have hne : z.fID ≠ x.fID := by
                intro he
                have hnd : ((A ++ x :: T).map (·.fID)).Nodup := (hp.map (·.fID)).nodup_iff.2 hd
                rw [List.map_append, List.nodup_append] at hnd
                exact hnd.2.2 z.fID (List.mem_map.2 ⟨z, by rw [hB]; simp [hzm], rfl⟩) x.fID (by simp) he
              omega
            rcases List.eq_nil_or_concat B1 with rfl | ⟨B, z, rfl⟩
            · cases hy
            · have hz := hlast z (by simp)
              rw [List.concat_eq_append] at hy s1
              rcases List.mem_append.1 hy with hy | hy
              · rw [List.pairwise_append] at s1
                have := s1.2.2 y hy z (by simp)
                omega
              · rw [List.mem_singleton.1 hy]; exact hz
          refine ⟨s1, List.pairwise_cons.2 ⟨h2, s2⟩, ?_⟩
          intro y hy z hz
          rcases List.mem_cons.1 hz with rfl | hz
          · exact hne y hy
          · exact s3 y hy z hz
        · rw [hB] at hlen; simp at hlen ⊢; omega
        · left; rw [hB] at hlen; simp at hlen ⊢; omega
        · dsimp only
          omega) (w64 (0 + 1), l) (by
      have e : w64 (0 + 1) = 1 := by decide
      rw [e]
      cases l with
      | nil => exact absurd rfl hnil
      | cons x T => exact ⟨[x], T, rfl, List.Perm.refl _, List.pairwise_singleton _ _, by simp, by simp at hl; left; simp; omega⟩)
  obtain ⟨t, h1, h2, h3⟩ := hinv
  rw [h1]
  exact ⟨_, rfl, h2, h3⟩
/-! ### sorted -/
theorem Sorted_unique {s t : List TLook} (h : s.Perm t) (hs : Sorted s) (ht : Sorted t) : s = t :=
  List.Perm.eq_of_pairwise (le := fun (a b : TLook) => a.fID < b.fID) (fun a b _ _ h1 h2 => by
    have h1' : a.fID < b.fID := h1
    have h2' : b.fID < a.fID := h2
    omega) hs ht h
/-- By their IDs. -/
def srt (l : List TLook) : List TLook := l.mergeSort (fun a b => decide (a.fID ≤ b.fID))
theorem srt_perm (l : List TLook) : (srt l).Perm l := List.mergeSort_perm _ _
theorem srt_mem {l : List TLook} {x : TLook} : x ∈ srt l ↔ x ∈ l := (srt_perm l).mem_iff
theorem srt_len (l : List TLook) : (srt l).length = l.length := (srt_perm l).length_eq
theorem srt_sorted {l : List TLook} (hd : (l.map (·.fID)).Nodup) : Sorted (srt l) := by
  have h1 : (srt l).Pairwise (fun a b => decide (a.fID ≤ b.fID) = true) := List.pairwise_mergeSort (fun a b c h1 h2 => by simp only [decide_eq_true_eq] at h1 h2 ⊢; omega) (fun a b => by simp only [Bool.or_eq_true, decide_eq_true_eq]; omega) l
  have h2 : ((srt l).map (·.fID)).Nodup := ((srt_perm l).map (·.fID)).nodup_iff.2 hd
  rw [List.nodup_iff_pairwise_ne, List.pairwise_map] at h2
  unfold Sorted
  exact List.Pairwise.imp₂ (fun a b h1 h2 => by simp only [decide_eq_true_eq] at h1; omega) h1 h2
/-- What Check accepts. -/
def OkF (f : TFire) : Prop := OkSl f ∧ f.fLooks.length ≤ 24 ∧ (∀ x ∈ f.fLooks, OkLook x) ∧ (f.fLooks.map (·.fID)).Nodup
theorem CheckS_ok {f : TFire} : CheckS f = 0 ↔ OkF f := CheckS_0
theorem foldO_app1 {α : Type} (f : List α → α → Option (List α ⊕ Unit)) : ∀ (l acc : List α), (∀ (a : List α) (x : α), a.length ≤ acc.length + l.length → f a x = some (.inl (a ++ [x]))) → foldO f l acc = some (.inl (acc ++ l))
  | [], acc, h => by rw [List.append_nil]; rfl
  | x :: l, acc, h => by
    unfold foldO
    rw [h acc x (by omega)]
    dsimp only
    rw [foldO_app1 f l (acc ++ [x]) (fun a y ha => h a y (by simp at ha ⊢; omega))]
    simp
theorem Collect_eq {l : List TLook} (hl : l.length ≤ 1000) : slices_Collect_calx_api_Look l = some l := by
  unfold slices_Collect_calx_api_Look slices_AppendSeq_calx_api_Look_calx_api_Look
  rw [guardO_pos (show seqLook_ok l from hl)]
  have h : foldO slices_AppendSeq_calx_api_Look_calx_api_Look_r1 (seqLook l) [] = some (.inl ([] ++ l)) := foldO_app1 _ l [] (fun a x ha => by
    unfold slices_AppendSeq_calx_api_Look_calx_api_Look_r1
    rw [guardO_pos (by simp at ha; omega)])
  rw [h]
  rfl
theorem Len_some {n : Nat} (h : n < 16) : ∃ v, math_bits_Len ((n : Nat) : Int) = some v := by
  unfold math_bits_Len math_bits_Len64
  rw [guardO_pos (by omega)]
  exact ⟨_, rfl⟩
theorem SortFunc_eq {l : List TLook} (hl : l.length ≤ 12) {cmp : TLook → TLook → Option Int} (c : TLook → TLook → Int) (hc : ∀ x y, x ∈ l → y ∈ l → cmp x y = some (c x y) ∧ (c x y < 0 ↔ x.fID < y.fID)) (hd : (l.map (·.fID)).Nodup) : slices_SortFunc_calx_api_Look_calx_api_Look l cmp = some (srt l) := by
  obtain ⟨s, h1, h2, h3⟩ := insSort rfl (by omega) c hc hd
  obtain ⟨v, hv⟩ := Len_some (n := l.length) (by omega)
  have hs : s = srt l := Sorted_unique (h2.trans (srt_perm l).symm) h3 (srt_sorted hd)
  unfold slices_SortFunc_calx_api_Look_calx_api_Look
  rw [guardO_pos (by omega), hv, Option.bind_some]
  unfold slices_pdqsortCmpFunc_calx_api_Look
  have hb : slices_pdqsortCmpFunc_calx_api_Look_l1 cmp (0, ((l.length : Nat) : Int), v, true, true, l) = some (.inr (0, ((l.length : Nat) : Int), v, true, true, s)) := by
    unfold slices_pdqsortCmpFunc_calx_api_Look_l1; dsimp only
    rw [guardO_pos (decide_eq_true (by rw [w64_id (by omega) (by omega)]; omega)), h1, Option.bind_some]
  rw [loopO_stop hb, ← hs]
  rfl
theorem sorted_of {f : TFire} (hl : f.fLooks.length ≤ 12) (ho : ∀ x ∈ f.fLooks, OkLook x) (hd : (f.fLooks.map (·.fID)).Nodup) : fire_sorted f = some (srt f.fLooks) := by
  unfold fire_sorted slices_Values_calx_api_Look_calx_api_Look slices_SortedFunc_calx_api_Look
  rw [Collect_eq (by omega)]
  dsimp only [Option.bind_some]
  have h1 := SortFunc_eq hl (cmp := fun x5 x6 => fire_sorted_1 x5 x6) (fun x y => x.fID - y.fID) (fun x y hx hy => by
    have hx' := (ho x hx).1
    have hy' := (ho y hy).1
    refine ⟨?_, by omega⟩
    unfold fire_sorted_1
    rw [w64_id (by omega) (by omega)]) hd
  rw [h1]
  rfl
/-- What the walks of a fire ask: it is right, and has 12 looks at most. -/
def Ok12 (f : TFire) : Prop := OkF f ∧ f.fLooks.length ≤ 12
theorem sorted_eq {f : TFire} (h : Ok12 f) : fire_sorted f = some (srt f.fLooks) := sorted_of h.2 h.1.2.2.1 h.1.2.2.2
theorem seqLook_of {l : List TLook} (h : l.length ≤ 24) : seqLook_ok (srt l) := by unfold seqLook_ok; rw [srt_len]; omega
end Go.Proofs.YtndajeiecdmhnaaGreat
