/- Plain laws of sample: the reference's wholes and Check, ends, comparisons of lists. No program in sight. -/
import Derived.Test.YtepfgdfahinpkaaN4
namespace Go.Proofs.Ytepfgdfahinpkaa

theorem in_eq (n lo hi : Int) : calxref03_in n lo hi = some (decide (lo ≤ n ∧ n ≤ hi)) := by
  unfold calxref03_in; rw [Bool.decide_and]
theorem sorted_eq (k : TKinds) : calxref03_sorted k = some (decide (0 ≤ k.x0 ∧ 0 ≤ k.x1 ∧ 0 ≤ k.x2)) := by
  unfold calxref03_sorted
  rw [Bool.decide_and, Bool.decide_and, Bool.and_assoc]
theorem wY_len (b : TBatch) (x : Nat) (l : List Nat) : (wY b x l).length ≤ l.length := by
  unfold wY
  exact Nat.le_trans (List.length_filter_le ..) (by simp)
theorem wX_len (b : TBatch) (h : b.fBarrows ≤ 50) (l : List Nat) : (wX b l).length ≤ l.length * 51 := by
  induction l with
  | nil => simp [wX]
  | cons x l ih =>
    have := wY_len b x (List.range (b.fBarrows.toNat + 1 - x))
    rw [List.length_range] at this
    unfold wX at ih ⊢
    rw [List.flatMap_cons, List.length_append, List.length_cons]
    omega
theorem l3_step (b : TBatch) (s4 s9 : Int × List TKinds) (ok : Bool) (i sv vv lo hi : Int) (h : 0 ≤ i ∧ i < 3) (hs : sel3 b.fSeen.x0 b.fSeen.x1 b.fSeen.x2 i = sv) (hv : sel3 s4.1 s9.1 (w64 ((w64 (b.fBarrows - s4.1)) - s9.1)) i = vv)
    (hl : sel3 b.fKnown.x0.fLo b.fKnown.x1.fLo b.fKnown.x2.fLo i = lo) (hh : sel3 b.fKnown.x0.fHi b.fKnown.x1.fHi b.fKnown.x2.fHi i = hi) :
    calxref03_wholes_l3 b s4 s9 (ok, i) = some (.inl (ok && decide (sv ≤ vv ∧ lo ≤ vv ∧ vv ≤ hi), i + 1)) := by
  unfold calxref03_wholes_l3; dsimp only
  rw [ite_t h.2, guardO_pos h, guardO_pos h, guardO_pos h, guardO_pos h, guardO_pos h, hs, hv, hl, hh, in_eq, w64_id (by omega) (by omega)]
  cases ok with
  | false => rfl
  | true =>
    by_cases hc : sv ≤ vv
    · simp [hc]
    · simp [hc]
theorem l3_done (b : TBatch) (x y : Int) (o o' : List TKinds) (hx : 0 ≤ x ∧ x ≤ 50) (hy : 0 ≤ y ∧ y ≤ 51) (hN : 0 ≤ b.fBarrows ∧ b.fBarrows ≤ 50) :
    loopO (calxref03_wholes_l3 b (x, o) (y, o')) (true, 0) = some (decide (OkK b ⟨x, y, b.fBarrows - x - y⟩), 3) := by
  have hz : w64 ((w64 (b.fBarrows - x)) - y) = b.fBarrows - x - y := by rw [w64_id (x := b.fBarrows - x) (by omega) (by omega), w64_id (by omega) (by omega)]
  have e0 := l3_step b (x, o) (y, o') true 0 _ _ _ _ (by decide) rfl rfl rfl rfl
  have e1 := l3_step b (x, o) (y, o') (true && decide (b.fSeen.x0 ≤ x ∧ b.fKnown.x0.fLo ≤ x ∧ x ≤ b.fKnown.x0.fHi)) (0 + 1) _ _ _ _ (by decide) rfl rfl rfl rfl
  have e2 := l3_step b (x, o) (y, o') (true && decide (b.fSeen.x0 ≤ x ∧ b.fKnown.x0.fLo ≤ x ∧ x ≤ b.fKnown.x0.fHi) && decide (b.fSeen.x1 ≤ y ∧ b.fKnown.x1.fLo ≤ y ∧ y ≤ b.fKnown.x1.fHi)) (0 + 1 + 1) _ (b.fBarrows - x - y) _ _ (by decide) rfl hz rfl rfl
  rw [loopO_next e0]
  have e1' : calxref03_wholes_l3 b (x, o) (y, o') (true && decide (b.fSeen.x0 ≤ x ∧ b.fKnown.x0.fLo ≤ x ∧ x ≤ b.fKnown.x0.fHi), 0 + 1) = _ := e1
  have e0' : (sel3 b.fSeen.x0 b.fSeen.x1 b.fSeen.x2 0 ≤ sel3 x y (w64 ((w64 (b.fBarrows - x)) - y)) 0 ∧ sel3 b.fKnown.x0.fLo b.fKnown.x1.fLo b.fKnown.x2.fLo 0 ≤ sel3 x y (w64 ((w64 (b.fBarrows - x)) - y)) 0 ∧ sel3 x y (w64 ((w64 (b.fBarrows - x)) - y)) 0 ≤ sel3 b.fKnown.x0.fHi b.fKnown.x1.fHi b.fKnown.x2.fHi 0) = (b.fSeen.x0 ≤ x ∧ b.fKnown.x0.fLo ≤ x ∧ x ≤ b.fKnown.x0.fHi) := rfl
  show loopO _ (true && decide (b.fSeen.x0 ≤ x ∧ b.fKnown.x0.fLo ≤ x ∧ x ≤ b.fKnown.x0.fHi), 0 + 1) = _
  rw [loopO_next e1]
  show loopO _ (true && decide (b.fSeen.x0 ≤ x ∧ b.fKnown.x0.fLo ≤ x ∧ x ≤ b.fKnown.x0.fHi) && decide (b.fSeen.x1 ≤ y ∧ b.fKnown.x1.fLo ≤ y ∧ y ≤ b.fKnown.x1.fHi), 0 + 1 + 1) = _
  rw [loopO_next e2]
  have e3 : ∀ c, calxref03_wholes_l3 b (x, o) (y, o') (c, 0 + 1 + 1 + 1) = some (.inr (c, 3)) := by
    intro c
    unfold calxref03_wholes_l3; dsimp only
    rw [ite_f (by decide)]
    rfl
  rw [loopO_stop (e3 _)]
  refine congrArg some (Prod.ext ?_ rfl)
  rw [Bool.eq_iff_iff, decide_eq_true_eq]
  simp only [Bool.and_eq_true, decide_eq_true_eq, true_and]
  exact ⟨fun ⟨⟨p, q⟩, r⟩ => ⟨p, q, r⟩, fun ⟨p, q, r⟩ => ⟨⟨p, q⟩, r⟩⟩
theorem wY_snoc (b : TBatch) (x k : Nat) : wY b x (List.range (k + 1)) = wY b x (List.range k) ++ (if OkK b (mkK b x k) then [mkK b x k] else []) := by
  rw [List.range_succ, wY_app]
  congr 1
  unfold wY
  by_cases h : OkK b (mkK b x k)
  · rw [if_pos h]; simp [h]
  · rw [if_neg h]; simp [h]
theorem wX_snoc (b : TBatch) (k : Nat) : wX b (List.range (k + 1)) = wX b (List.range k) ++ wY b k (List.range (b.fBarrows.toNat + 1 - k)) := by
  rw [List.range_succ, wX_app]
  simp [wX]
theorem wholes_l2_run (b : TBatch) (hN : 0 ≤ b.fBarrows ∧ b.fBarrows ≤ 50) (x : Nat) (hx : (x : Int) ≤ b.fBarrows) (o o' : List TKinds) (ho : o'.length ≤ 10000) :
    loopO (calxref03_wholes_l2 b ((x : Int), o)) (0, o') = some (((b.fBarrows.toNat + 1 - x : Nat) : Int), o' ++ wY b x (List.range (b.fBarrows.toNat + 1 - x))) := by
  have := loop_run (body := calxref03_wholes_l2 b ((x : Int), o)) (fun k => ((k : Int), o' ++ wY b x (List.range k))) (b.fBarrows.toNat + 1 - x) (t := (((b.fBarrows.toNat + 1 - x : Nat) : Int), o' ++ wY b x (List.range (b.fBarrows.toNat + 1 - x)))) (fun k hk => by
    have hlen := wY_len b x (List.range k)
    rw [List.length_range] at hlen
    unfold calxref03_wholes_l2; dsimp only
    rw [w64_id (x := (x : Int) + (k : Int)) (by omega) (by omega), ite_t (by omega), l3_done b x k o _ (by omega) (by omega) hN, w64_succ (by omega), w64_id (x := b.fBarrows - x) (by omega) (by omega), w64_id (x := b.fBarrows - x - k) (by omega) (by omega)]
    dsimp only [Option.bind_some]
    rw [wY_snoc]
    by_cases h : OkK b (mkK b x k)
    · have h' : OkK b ⟨x, k, b.fBarrows - x - k⟩ := h
      rw [if_pos h, if_pos (decide_eq_true h'), guardO_pos (by rw [List.length_append]; omega), List.append_assoc]
      rfl
    · have h' : ¬ OkK b ⟨x, k, b.fBarrows - x - k⟩ := h
      rw [if_neg h, if_neg (by simpa using h'), List.append_nil]) (by
    unfold calxref03_wholes_l2; dsimp only
    rw [w64_id (x := (x : Int) + _) (by omega) (by omega), ite_f (by omega)])
  have e : wY b x (List.range 0) = [] := rfl
  simp only [e, List.append_nil] at this
  exact this
theorem wholes_ref (b : TBatch) (hN : 0 ≤ b.fBarrows ∧ b.fBarrows ≤ 50) : calxref03_wholes b = some (wl b) := by
  unfold calxref03_wholes
  have := loop_run (body := calxref03_wholes_l1 b) (fun k => ((k : Int), wX b (List.range k))) (b.fBarrows.toNat + 1) (t := (((b.fBarrows.toNat + 1 : Nat) : Int), wX b (List.range (b.fBarrows.toNat + 1)))) (fun k hk => by
    have hlen := wX_len b hN.2 (List.range k)
    rw [List.length_range] at hlen
    unfold calxref03_wholes_l1; dsimp only
    rw [ite_t (by omega), wholes_l2_run b hN k (by omega) _ _ (by omega), w64_succ (by omega), wX_snoc]
    rfl) (by
    unfold calxref03_wholes_l1; dsimp only
    rw [ite_f (by omega)])
  have h0 : loopO (calxref03_wholes_l1 b) (0, ([] : List TKinds)) = _ := this
  rw [h0]
  rfl
theorem RCheck_l1_step (b : TBatch) (i e : Int) (s : TSpan) (hi : 0 ≤ i ∧ i < 3) (h1 : sel3 b.fKnown.x0.fLo b.fKnown.x1.fLo b.fKnown.x2.fLo i = s.fLo) (h2 : sel3 b.fKnown.x0.fHi b.fKnown.x1.fHi b.fKnown.x2.fHi i = s.fHi) :
    calxref03_Check_l1 b (e, i) = if OkKn b s then some (.inl (e, i + 1)) else some (.inr (.inl (1, i))) := by
  unfold calxref03_Check_l1; dsimp only
  rw [ite_t hi.2, guardO_pos hi, guardO_pos hi, guardO_pos hi, guardO_pos hi, h1, h2, w64_id (by omega) (by omega)]
  by_cases h : OkKn b s
  · rw [if_pos h]
    unfold OkKn at h
    have a1 : decide (s.fLo < 0) = false := decide_eq_false (by omega)
    have a2 : decide (s.fHi < s.fLo) = false := decide_eq_false (by omega)
    have a3 : decide (b.fBarrows < s.fHi) = false := decide_eq_false (by omega)
    simp [a1, a2, a3]
  · rw [if_neg h]
    unfold OkKn at h
    by_cases a1 : s.fLo < 0
    · simp [a1]
    · by_cases a2 : s.fHi < s.fLo
      · simp [a1, a2]
      · have a3 : b.fBarrows < s.fHi := by omega
        simp [a1, a2, a3]
theorem RCheck_l1_run (b : TBatch) : (OkKnown b ∧ loopO (calxref03_Check_l1 b) (0, 0) = some (.inr (0, 3))) ∨ (¬ OkKnown b ∧ ∃ i, loopO (calxref03_Check_l1 b) (0, 0) = some (.inl (1, i))) := by
  have e0 := RCheck_l1_step b 0 0 b.fKnown.x0 (by decide) rfl rfl
  have e1 := RCheck_l1_step b (0 + 1) 0 b.fKnown.x1 (by decide) rfl rfl
  have e2 := RCheck_l1_step b (0 + 1 + 1) 0 b.fKnown.x2 (by decide) rfl rfl
  unfold OkKnown
  by_cases h0 : OkKn b b.fKnown.x0
  · rw [if_pos h0] at e0
    by_cases h1 : OkKn b b.fKnown.x1
    · rw [if_pos h1] at e1
      by_cases h2 : OkKn b b.fKnown.x2
      · rw [if_pos h2] at e2
        refine .inl ⟨⟨h0, h1, h2⟩, ?_⟩
        rw [loopO_next e0, loopO_next e1, loopO_next e2]
        exact loopO_stop rfl
      · rw [if_neg h2] at e2
        exact .inr ⟨fun h => h2 h.2.2, _, by rw [loopO_next e0, loopO_next e1]; exact loopO_stop e2⟩
    · rw [if_neg h1] at e1
      exact .inr ⟨fun h => h1 h.2.1, _, by rw [loopO_next e0]; exact loopO_stop e1⟩
  · rw [if_neg h0] at e0
    exact .inr ⟨fun h => h0 h.1, _, loopO_stop e0⟩
theorem ref_Check_spec (b : TBatch) : calxref03_Check b = some (CheckS b) := by
  unfold calxref03_Check
  rw [in_eq, bnd rfl, sorted_eq]
  unfold CheckS
  by_cases hN : 1 ≤ b.fBarrows ∧ b.fBarrows ≤ 50
  · rw [decide_eq_true hN]
    by_cases hs : 0 ≤ b.fSeen.x0 ∧ 0 ≤ b.fSeen.x1 ∧ 0 ≤ b.fSeen.x2
    · rw [decide_eq_true hs, all_nn hs]
      simp only [Option.bind_some, Bool.not_true, Bool.false_eq_true, if_false]
      by_cases hz : min b.fSeen.x0 51 + min b.fSeen.x1 51 + min b.fSeen.x2 51 ≤ b.fBarrows
      · have hok : OkSeen b := ⟨hN, hs, hz⟩
        rw [if_pos hok, ite_f (by omega)]
        rcases RCheck_l1_run b with ⟨hk, hr⟩ | ⟨hk, i, hr⟩
        · rw [hr, if_pos hk]
          dsimp only [Option.bind_some]
          rw [wholes_ref b (by omega)]
          cases hw : wl b with
          | nil => rfl
          | cons x xs =>
            simp
        · rw [hr, if_neg hk]
          rfl
      · rw [if_neg (fun h : OkSeen b => hz h.2.2), ite_t (by omega)]
    · rw [decide_eq_false hs, if_neg (fun h : OkSeen b => hs h.2.1)]
      rfl
  · rw [decide_eq_false hN, if_neg (fun h : OkSeen b => hN h.1)]
    rfl
/-! ### The error of a batch and a sort -/
def SortS (b : TBatch) (s : Int) : Int := if CheckS b = 0 then if 0 ≤ s ∧ s ≤ 2 then 0 else 1 else CheckS b
theorem isSort_eq (s : Int) : sample_isSort s = some (decide (0 ≤ s ∧ s ≤ 2)) := by
  unfold sample_isSort; rw [within_eq]; rfl
theorem sorted_spec (b : TBatch) (s : Int) : sample_sorted b s = some (SortS b s) := by
  unfold sample_sorted SortS
  rw [sample_Check_spec, bnd rfl]
  by_cases h : CheckS b = 0
  · rw [if_pos h, h, isSort_eq]
    by_cases h' : 0 ≤ s ∧ s ≤ 2
    · simp [h']
    · simp [h']
  · rw [if_neg h, if_pos (by simpa using h)]
theorem kind_spec (b : TBatch) (s : Int) : calxref03_kind b s = some (SortS b s) := by
  unfold calxref03_kind SortS
  rw [ref_Check_spec, bnd rfl]
  by_cases h : CheckS b = 0
  · rw [if_pos h, h, in_eq]
    by_cases h' : 0 ≤ s ∧ s ≤ 2
    · simp [h']
    · simp [h']
  · rw [if_neg h]
    simp [h]
theorem Sort_0 {b : TBatch} {s : Int} : SortS b s = 0 ↔ CheckS b = 0 ∧ 0 ≤ s ∧ s ≤ 2 := by
  unfold SortS
  by_cases h : CheckS b = 0
  · by_cases h' : 0 ≤ s ∧ s ≤ 2
    · simp [h, h']
    · simp only [h, if_true, true_and]
      rw [if_neg h']
      simp [h']
  · simp [h]
end Go.Proofs.Ytepfgdfahinpkaa
