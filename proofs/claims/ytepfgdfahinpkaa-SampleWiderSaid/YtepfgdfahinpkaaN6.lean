/- Plain laws of sample: all wholes, ends, comparisons of lists; what SampleBatches' plain function says is true. No program in sight. -/
import Derived.Test.YtepfgdfahinpkaaN5
namespace Go.Proofs.Ytepfgdfahinpkaa

theorem foldO_inl {S T α : Type} {f : S → α → Option (S ⊕ T)} {g : S → α → S} : ∀ (l : List α) (s : S), (∀ s, ∀ x ∈ l, f s x = some (.inl (g s x))) → foldO f l s = some (.inl (l.foldl g s))
  | [], s, _ => rfl
  | x :: l, s, h => by
    unfold foldO
    rw [h s x (List.mem_cons_self ..)]
    exact foldO_inl l (g s x) (fun s y hy => h s y (List.mem_cons_of_mem _ hy))
/-- .. while something holds. -/
theorem foldO_inv {S T α : Type} {f : S → α → Option (S ⊕ T)} {g : S → α → S} (I : Nat → S → Prop) : ∀ (l : List α) (n : Nat) (s : S), I n s → (∀ n s, ∀ x ∈ l, I n s → f s x = some (.inl (g s x)) ∧ I (n + 1) (g s x)) → foldO f l s = some (.inl (l.foldl g s)) ∧ I (n + l.length) (l.foldl g s)
  | [], n, s, h0, _ => ⟨rfl, h0⟩
  | x :: l, n, s, h0, h => by
    obtain ⟨h1, h2⟩ := h n s x (List.mem_cons_self ..) h0
    unfold foldO
    rw [h1]
    have := foldO_inv I l (n + 1) (g s x) h2 (fun n s y hy => h n s y (List.mem_cons_of_mem _ hy))
    rw [List.length_cons, show n + (l.length + 1) = n + 1 + l.length by omega]
    exact this

/-! ### Lists compared -/
theorem SameKinds_refl {a : List TKinds} (h : a.length ≤ 1000000000) : calxref03_SameKinds a a = some true := by
  unfold calxref03_SameKinds
  rw [if_neg (by simp)]
  have := loop_run (body := calxref03_SameKinds_l1 a a) (fun k => (false, (k : Int))) a.length (t := .inr (false, (a.length : Int))) (fun k hk => by
    unfold calxref03_SameKinds_l1; dsimp only
    rw [ite_t (by omega), guardO_pos (by omega), guardO_pos (by omega), if_neg (by simp), w64_succ (by omega)]) (by
    unfold calxref03_SameKinds_l1; dsimp only
    rw [ite_f (by omega)])
  have h0 : loopO (calxref03_SameKinds_l1 a a) (false, 0) = _ := this
  rw [h0]
  rfl
theorem SameSpans_refl {a : List TSpan} (h : a.length ≤ 1000000000) : calxref03_SameSpans a a = some true := by
  unfold calxref03_SameSpans
  rw [if_neg (by simp)]
  have := loop_run (body := calxref03_SameSpans_l1 a a) (fun k => (false, (k : Int))) a.length (t := .inr (false, (a.length : Int))) (fun k hk => by
    unfold calxref03_SameSpans_l1; dsimp only
    rw [ite_t (by omega), guardO_pos (by omega), guardO_pos (by omega), if_neg (by simp), w64_succ (by omega)]) (by
    unfold calxref03_SameSpans_l1; dsimp only
    rw [ite_f (by omega)])
  have h0 : loopO (calxref03_SameSpans_l1 a a) (false, 0) = _ := this
  rw [h0]
  rfl
theorem SameInts_refl {a : List Int} (h : a.length ≤ 1000000000) : calxref03_SameInts a a = some true := by
  unfold calxref03_SameInts
  rw [if_neg (by simp)]
  have := loop_run (body := calxref03_SameInts_l1 a a) (fun k => (false, (k : Int))) a.length (t := .inr (false, (a.length : Int))) (fun k hk => by
    unfold calxref03_SameInts_l1; dsimp only
    rw [ite_t (by omega), guardO_pos (by omega), guardO_pos (by omega), if_neg (by simp), w64_succ (by omega)]) (by
    unfold calxref03_SameInts_l1; dsimp only
    rw [ite_f (by omega)])
  have h0 : loopO (calxref03_SameInts_l1 a a) (false, 0) = _ := this
  rw [h0]
  rfl

/-! ### All wholes -/
theorem Collect_spec {b : TBatch} (hb : sample_okB b) : slices_Collect_calx_api_Kinds b = some (wl b) := by
  have hlen := wl_len_le b (by unfold sample_okB at hb; omega)
  unfold slices_Collect_calx_api_Kinds slices_AppendSeq_calx_api_Kinds_calx_api_Kinds
  rw [guardO_pos hb, wh_eq hb]
  have key : ∀ (l o : List TKinds), o.length + l.length ≤ 3000 → foldO slices_AppendSeq_calx_api_Kinds_calx_api_Kinds_r1 l o = some (.inl (o ++ l)) := by
    intro l
    induction l with
    | nil => intro o _; rw [List.append_nil]; rfl
    | cons x l ih =>
      intro o ho
      rw [List.length_cons] at ho
      unfold foldO slices_AppendSeq_calx_api_Kinds_calx_api_Kinds_r1
      rw [guardO_pos (by omega)]
      dsimp only
      have := ih (o ++ [x]) (by rw [List.length_append]; simp; omega)
      rw [List.append_assoc] at this
      exact this
  rw [key (wl b) [] (by simpa using hlen)]
  rfl
theorem Wholes_spec (b : TBatch) : sample_Wholes b = some (if CheckS b = 0 then wl b else [], CheckS b) := by
  unfold sample_Wholes
  rw [sample_Check_spec, bnd rfl]
  by_cases h : CheckS b = 0
  · rw [if_pos h, h]
    simp only [sample_wholes, Option.bind_some, Collect_spec (Check_okB h)]
    rfl
  · rw [if_neg h, if_pos (by simpa using h)]
theorem AllWholes_spec (b : TBatch) : calxref03_AllWholes b = some ⟨if CheckS b = 0 then wl b else [], CheckS b⟩ := by
  unfold calxref03_AllWholes
  rw [ref_Check_spec, bnd rfl]
  by_cases h : CheckS b = 0
  · have hb := Check_okB h
    unfold sample_okB at hb
    rw [if_pos h, h, wholes_ref b (by omega)]
    rfl
  · rw [if_neg h, if_pos (by simpa using h)]

/-! ### Ends -/
def kv (s : Int) (k : TKinds) : Int := sel3 k.x0 k.x1 k.x2 s
theorem kv_mem {b : TBatch} {k : TKinds} {s : Int} (h : k ∈ wl b) (h0 : 0 ≤ b.fBarrows) (hs : 0 ≤ s ∧ s < 3) : 0 ≤ kv s k ∧ kv s k ≤ b.fBarrows := by
  have := mem_wl h h0
  have h3 : s = 0 ∨ s = 1 ∨ s = 2 := by omega
  unfold kv
  rcases h3 with rfl | rfl | rfl <;> simp only [sel3] <;> omega
def minK (s : Int) (l : List TKinds) (a : Int) : Int := l.foldl (fun m k => min m (kv s k)) a
def maxK (s : Int) (l : List TKinds) (a : Int) : Int := l.foldl (fun m k => max m (kv s k)) a
theorem minK_spec (s : Int) : ∀ (l : List TKinds) (a : Int), minK s l a ≤ a ∧ (∀ k ∈ l, minK s l a ≤ kv s k) ∧ (minK s l a = a ∨ ∃ k ∈ l, minK s l a = kv s k)
  | [], a => ⟨Int.le_refl _, fun k h => (by cases h), .inl rfl⟩
  | k :: l, a => by
    obtain ⟨h1, h2, h3⟩ := minK_spec s l (min a (kv s k))
    have e : minK s (k :: l) a = minK s l (min a (kv s k)) := rfl
    rw [e]
    refine ⟨by omega, fun q hq => ?_, ?_⟩
    · rcases List.mem_cons.1 hq with rfl | hq
      · omega
      · exact h2 q hq
    · rcases h3 with h3 | ⟨q, hq, h3⟩
      · by_cases hle : a ≤ kv s k
        · exact .inl (by omega)
        · exact .inr ⟨k, List.mem_cons_self .., by omega⟩
      · exact .inr ⟨q, List.mem_cons_of_mem _ hq, h3⟩
theorem maxK_spec (s : Int) : ∀ (l : List TKinds) (a : Int), a ≤ maxK s l a ∧ (∀ k ∈ l, kv s k ≤ maxK s l a) ∧ (maxK s l a = a ∨ ∃ k ∈ l, maxK s l a = kv s k)
  | [], a => ⟨Int.le_refl _, fun k h => (by cases h), .inl rfl⟩
  | k :: l, a => by
    obtain ⟨h1, h2, h3⟩ := maxK_spec s l (max a (kv s k))
    have e : maxK s (k :: l) a = maxK s l (max a (kv s k)) := rfl
    rw [e]
    refine ⟨by omega, fun q hq => ?_, ?_⟩
    · rcases List.mem_cons.1 hq with rfl | hq
      · omega
      · exact h2 q hq
    · rcases h3 with h3 | ⟨q, hq, h3⟩
      · by_cases hle : kv s k ≤ a
        · exact .inl (by omega)
        · exact .inr ⟨k, List.mem_cons_self .., by omega⟩
      · exact .inr ⟨q, List.mem_cons_of_mem _ hq, h3⟩
/-- The least and the greatest number of a sort. -/
def EndsS (b : TBatch) (s : Int) : TSpan := ⟨minK s (wl b) b.fBarrows, maxK s (wl b) 0⟩
theorem ends_spec {b : TBatch} (hb : sample_okB b) {s : Int} (hs : 0 ≤ s ∧ s ≤ 2) : sample_ends b s = some (EndsS b s) := by
  unfold sample_ends
  simp only [sample_wholes, Option.bind_some]
  rw [guardO_pos hb, wh_eq hb, foldO_inl (g := fun (st : Int × Int) k => (min st.1 (kv s k), max st.2 (kv s k))) _ _ (fun st k _ => by
    unfold sample_ends_r1
    rw [guardO_pos (by omega), guardO_pos (by omega)]
    rfl)]
  have key : ∀ (l : List TKinds) (st : Int × Int), l.foldl (fun (st : Int × Int) k => (min st.1 (kv s k), max st.2 (kv s k))) st = (minK s l st.1, maxK s l st.2) := by
    intro l
    induction l with
    | nil => intro st; rfl
    | cons k l ih =>
      intro st
      rw [List.foldl_cons, ih]
      rfl
  rw [key]
  rfl
/-- The ends are numbers of wholes, and all lie between them. -/
theorem Ends_is {b : TBatch} (h : CheckS b = 0) {s : Int} (hs : 0 ≤ s ∧ s ≤ 2) :
    (∃ k ∈ wl b, kv s k = (EndsS b s).fLo) ∧ (∃ k ∈ wl b, kv s k = (EndsS b s).fHi) ∧ ∀ k ∈ wl b, (EndsS b s).fLo ≤ kv s k ∧ kv s k ≤ (EndsS b s).fHi := by
  obtain ⟨h1, h2, h3⟩ := Check_0.1 h
  have hN : 0 ≤ b.fBarrows := by unfold OkSeen at h1; omega
  obtain ⟨k0, hk0⟩ : ∃ k0, k0 ∈ wl b := by
    cases hw : wl b with
    | nil => exact absurd hw h3
    | cons k l => exact ⟨k, List.mem_cons_self ..⟩
  have hb0 := kv_mem hk0 hN (s := s) (by omega)
  obtain ⟨a1, a2, a3⟩ := minK_spec s (wl b) b.fBarrows
  obtain ⟨c1, c2, c3⟩ := maxK_spec s (wl b) 0
  unfold EndsS
  refine ⟨?_, ?_, fun k hk => ⟨a2 k hk, c2 k hk⟩⟩
  · rcases a3 with a3 | ⟨k, hk, e⟩
    · exact ⟨k0, hk0, by have := a2 k0 hk0; dsimp only; omega⟩
    · exact ⟨k, hk, e.symm⟩
  · rcases c3 with c3 | ⟨k, hk, e⟩
    · exact ⟨k0, hk0, by have := c2 k0 hk0; dsimp only; omega⟩
    · exact ⟨k, hk, e.symm⟩
theorem Ends_rg {b : TBatch} (h : CheckS b = 0) {s : Int} (hs : 0 ≤ s ∧ s ≤ 2) : 0 ≤ (EndsS b s).fLo ∧ (EndsS b s).fLo ≤ (EndsS b s).fHi ∧ (EndsS b s).fHi ≤ b.fBarrows ∧ b.fBarrows ≤ 50 := by
  obtain ⟨⟨k, hk, e⟩, ⟨k', hk', e'⟩, ha⟩ := Ends_is h hs
  have h1 := (Check_0.1 h).1
  unfold OkSeen at h1
  have := kv_mem hk (by omega) (s := s) (by omega)
  have := kv_mem hk' (by omega) (s := s) (by omega)
  have := ha k hk
  omega
theorem sample_Ends_spec (b : TBatch) (s : Int) : sample_Ends b s = some (if SortS b s = 0 then EndsS b s else ⟨0, 0⟩, SortS b s) := by
  unfold sample_Ends
  rw [sorted_spec, bnd rfl]
  by_cases h : SortS b s = 0
  · rw [if_pos h, h, ends_spec (Check_okB (Sort_0.1 h).1) (Sort_0.1 h).2]
    rfl
  · rw [if_neg h, if_pos (by simpa using h)]
theorem ref_ends_spec {b : TBatch} (h : CheckS b = 0) {s : Int} (hs : 0 ≤ s ∧ s ≤ 2) : calxref03_ends b s = some (EndsS b s) := by
  obtain ⟨h1, h2, h3⟩ := Check_0.1 h
  have hN : 0 ≤ b.fBarrows ∧ b.fBarrows ≤ 50 := by unfold OkSeen at h1; omega
  have hlen := wl_len_le b hN.2
  have hpos : 0 < (wl b).length := List.length_pos_iff.2 h3
  obtain ⟨k0, hk0⟩ : ∃ k0, k0 = (wl b)[0] := ⟨_, rfl⟩
  have hm0 : k0 ∈ wl b := by rw [hk0]; exact List.getElem_mem _
  unfold calxref03_ends
  rw [wholes_ref b hN, bnd rfl, guardO_pos (by omega), guardO_pos (by omega), guardO_pos (by omega), guardO_pos (by omega)]
  have e0 : rdL (wl b) 0 = k0 := by rw [hk0]; exact rdL_nat (k := 0) hpos
  rw [e0]
  have := loop_run (body := calxref03_ends_l1 s (wl b)) (fun k => ((k : Int), minK s ((wl b).take k) (kv s k0), maxK s ((wl b).take k) (kv s k0))) (wl b).length (t := (((wl b).length : Int), minK s (wl b) (kv s k0), maxK s (wl b) (kv s k0))) (fun k hk => by
    unfold calxref03_ends_l1; dsimp only
    rw [ite_t (by omega), guardO_pos (by omega), guardO_pos (by omega), guardO_pos (by omega), guardO_pos (by omega), rdL_nat hk, w64_succ (by omega)]
    unfold minK maxK
    rw [List.take_add_one, List.getElem?_eq_getElem hk]
    simp only [Option.toList_some, List.foldl_append, List.foldl_cons, List.foldl_nil]
    rfl) (by
    unfold calxref03_ends_l1; dsimp only
    rw [ite_f (by omega), List.take_length])
  have h0 : loopO (calxref03_ends_l1 s (wl b)) (0, sel3 k0.x0 k0.x1 k0.x2 s, sel3 k0.x0 k0.x1 k0.x2 s) = _ := this
  rw [h0]
  dsimp only [Option.bind_some]
  congr 1
  obtain ⟨⟨k, hk, e⟩, ⟨k', hk', e'⟩, ha⟩ := Ends_is h hs
  obtain ⟨a1, a2, a3⟩ := minK_spec s (wl b) (kv s k0)
  obtain ⟨c1, c2, c3⟩ := maxK_spec s (wl b) (kv s k0)
  cases hE : EndsS b s with
  | mk lo hi =>
    rw [hE] at e e' ha
    dsimp only at e e' ha
    congr 1
    · have := a2 k hk
      rcases a3 with a3 | ⟨q, hq, a3⟩
      · have := ha k0 hm0; omega
      · have := ha q hq; omega
    · have := c2 k' hk'
      rcases c3 with c3 | ⟨q, hq, c3⟩
      · have := ha k0 hm0; omega
      · have := ha q hq; omega
theorem ref_Ends_spec (b : TBatch) (s : Int) : calxref03_Ends b s = some (if SortS b s = 0 then EndsS b s else ⟨0, 0⟩, SortS b s) := by
  unfold calxref03_Ends
  rw [kind_spec, bnd rfl]
  by_cases h : SortS b s = 0
  · rw [if_pos h, h, ref_ends_spec (Sort_0.1 h).1 (Sort_0.1 h).2]
    rfl
  · rw [if_neg h, if_pos (by simpa using h)]
theorem SampleBatches_true (b : TBatch) (s : Int) (_ : TBatch_rg b) (_ : Rg_i64 s) : calxlaw03_SampleBatches b s = some true := by
  unfold calxlaw03_SampleBatches
  have hl : (if CheckS b = 0 then wl b else []).length ≤ 1000000000 := by
    by_cases h : CheckS b = 0
    · have hb := (Check_0.1 h).1
      unfold OkSeen at hb
      have := wl_len_le b (by omega)
      rw [if_pos h]; omega
    · rw [if_neg h]; simp
  simp only [head_true, Wholes_spec, AllWholes_spec, sample_Ends_spec, ref_Ends_spec, sample_Check_spec, ref_Check_spec, SameKinds_refl hl, Option.bind_some]
  simp
end Go.Proofs.Ytepfgdfahinpkaa
