/- Plain laws of sample: Together, in the program and in the reference; what SampleTogether's plain function says is true. No program in sight. -/
import Derived.Test.YtepfgdfahinpkaaN6
namespace Go.Proofs.Ytepfgdfahinpkaa

theorem first_or (P : Nat → Prop) [DecidablePred P] : ∀ n, (∀ k, k < n → P k) ∨ ∃ k, k < n ∧ (∀ j, j < k → P j) ∧ ¬ P k
  | 0 => .inl (fun k h => by omega)
  | n + 1 => by
    rcases first_or P n with h | ⟨k, h1, h2, h3⟩
    · by_cases hn : P n
      · refine .inl (fun k hk => ?_)
        by_cases e : k = n
        · rw [e]; exact hn
        · exact h k (by omega)
      · exact .inr ⟨n, by omega, h, hn⟩
    · exact .inr ⟨k, by omega, h2, h3⟩
/-- The first error of batches. -/
def fe : List TBatch → Int
  | [] => 0
  | b :: l => if CheckS b = 0 then fe l else CheckS b
theorem fe_all : ∀ (l : List TBatch), (∀ k (h : k < l.length), CheckS l[k] = 0) → fe l = 0
  | [], _ => rfl
  | b :: l, h => by
    unfold fe
    have h0 : CheckS b = 0 := h 0 (by simp)
    rw [if_pos h0]
    exact fe_all l (fun k hk => h (k + 1) (by simpa using hk))
theorem fe_first : ∀ (l : List TBatch) (k : Nat) (hk : k < l.length), (∀ j (h : j < l.length), j < k → CheckS l[j] = 0) → CheckS l[k] ≠ 0 → fe l = CheckS l[k]
  | [], k, hk, _, _ => by simp at hk
  | b :: l, 0, hk, _, h => by
    unfold fe
    have h0 : ¬ CheckS b = 0 := h
    rw [if_neg h0]; rfl
  | b :: l, k + 1, hk, h0, h => by
    unfold fe
    have h1 : CheckS b = 0 := h0 0 (by simp) (by omega)
    rw [if_pos h1]
    exact fe_first l k (by simpa using hk) (fun j hj hjk => h0 (j + 1) (by simpa using hj) (by omega)) h
theorem fe_0 : ∀ (l : List TBatch), fe l = 0 → ∀ b ∈ l, CheckS b = 0
  | [], _, b, hb => by cases hb
  | b :: l, h, c, hc => by
    unfold fe at h
    by_cases e : CheckS b = 0
    · rw [if_pos e] at h
      rcases List.mem_cons.1 hc with rfl | hc
      · exact e
      · exact fe_0 l h c hc
    · rw [if_neg e] at h
      exact absurd h e
theorem etaB (x : TBatch) : TBatch.mk x.fBarrows (TKinds.mk x.fSeen.x0 x.fSeen.x1 x.fSeen.x2) (TArr3_TSpan.mk (TSpan.mk x.fKnown.x0.fLo x.fKnown.x0.fHi) (TSpan.mk x.fKnown.x1.fLo x.fKnown.x1.fHi) (TSpan.mk x.fKnown.x2.fLo x.fKnown.x2.fHi)) = x := rfl
theorem etaS (x : TSpan) : TSpan.mk x.fLo x.fHi = x := rfl
theorem Tog_l1 (l : List TBatch) (hl : l.length ≤ 1000) : (fe l = 0 ∧ loopO (sample_Together_l1 l) (0, 0) = some (.inr (0, (l.length : Int)))) ∨ (fe l ≠ 0 ∧ ∃ i, loopO (sample_Together_l1 l) (0, 0) = some (.inl (fe l, i))) := by
  have step : ∀ k (h : k < l.length), sample_Together_l1 l (0, (k : Int)) = if CheckS l[k] = 0 then some (.inl (0, ((k + 1 : Nat) : Int))) else some (.inr (.inl (CheckS l[k], (k : Int)))) := by
    intro k h
    unfold sample_Together_l1; dsimp only
    rw [ite_t (by omega), guardO_pos (by omega), etaB, rdL_nat h, sample_Check_spec, bnd rfl, w64_succ (by omega)]
    by_cases e : CheckS l[k] = 0
    · rw [if_pos e, if_neg (by simpa using e)]
    · rw [if_neg e, if_pos (by simpa using e)]
  rcases first_or (fun k => ∀ h : k < l.length, CheckS l[k] = 0) l.length with h | ⟨k, hk, h1, h2⟩
  · refine .inl ⟨fe_all l (fun k hk => h k hk hk), ?_⟩
    have := loop_run (body := sample_Together_l1 l) (fun k => (0, (k : Int))) l.length (t := .inr (0, (l.length : Int))) (fun k hk => by rw [step k hk, if_pos (h k hk hk)]) (by
      unfold sample_Together_l1; dsimp only
      rw [ite_f (by omega)])
    exact this
  · have h3 : CheckS l[k] ≠ 0 := fun e => h2 (fun _ => e)
    have e := fe_first l k hk (fun j hj hjk => h1 j hjk hj) h3
    refine .inr ⟨by rw [e]; exact h3, (k : Int), ?_⟩
    have := loop_run (body := sample_Together_l1 l) (fun k => (0, (k : Int))) k (t := .inl (CheckS l[k], (k : Int))) (fun j hj => by rw [step j (by omega), if_pos (h1 j hj (by omega))]) (by rw [step k hk, if_neg h3])
    rw [e]
    exact this
theorem RTog_l1 (l : List TBatch) (hl : l.length ≤ 1000) : (fe l = 0 ∧ loopO (calxref03_Together_l1 l) (0, 0) = some (.inr ((l.length : Int), 0))) ∨ (fe l ≠ 0 ∧ ∃ i, loopO (calxref03_Together_l1 l) (0, 0) = some (.inl (i, fe l))) := by
  have step : ∀ k (h : k < l.length), calxref03_Together_l1 l ((k : Int), 0) = if CheckS l[k] = 0 then some (.inl (((k + 1 : Nat) : Int), 0)) else some (.inr (.inl ((k : Int), CheckS l[k]))) := by
    intro k h
    unfold calxref03_Together_l1; dsimp only
    rw [ite_t (by omega), guardO_pos (by omega), etaB, rdL_nat h, ref_Check_spec, bnd rfl, w64_succ (by omega)]
    by_cases e : CheckS l[k] = 0
    · rw [if_pos e, if_neg (by simpa using e)]
    · rw [if_neg e, if_pos (by simpa using e)]
  rcases first_or (fun k => ∀ h : k < l.length, CheckS l[k] = 0) l.length with h | ⟨k, hk, h1, h2⟩
  · refine .inl ⟨fe_all l (fun k hk => h k hk hk), ?_⟩
    have := loop_run (body := calxref03_Together_l1 l) (fun k => ((k : Int), 0)) l.length (t := .inr ((l.length : Int), 0)) (fun k hk => by rw [step k hk, if_pos (h k hk hk)]) (by
      unfold calxref03_Together_l1; dsimp only
      rw [ite_f (by omega)])
    exact this
  · have h3 : CheckS l[k] ≠ 0 := fun e => h2 (fun _ => e)
    have e := fe_first l k hk (fun j hj hjk => h1 j hjk hj) h3
    refine .inr ⟨by rw [e]; exact h3, (k : Int), ?_⟩
    have := loop_run (body := calxref03_Together_l1 l) (fun k => ((k : Int), 0)) k (t := .inl ((k : Int), CheckS l[k])) (fun j hj => by rw [step j (by omega), if_pos (h1 j hj (by omega))]) (by rw [step k hk, if_neg h3])
    rw [e]
    exact this
/-- The ends of batches. -/
def endsL (l : List TBatch) (s : Int) : List TSpan := l.map fun b => EndsS b s
def sumLo (l : List TSpan) : Int := (l.map (·.fLo)).sum
def sumHi (l : List TSpan) : Int := (l.map (·.fHi)).sum
theorem take_succ {α : Type} {l : List α} {k : Nat} (h : k < l.length) : l.take (k + 1) = l.take k ++ [l[k]] := by
  rw [List.take_add_one, List.getElem?_eq_getElem h]; rfl
theorem sumLo_snoc (l : List TSpan) (x : TSpan) : sumLo (l ++ [x]) = sumLo l + x.fLo := by simp [sumLo, List.sum_append]
theorem sumHi_snoc (l : List TSpan) (x : TSpan) : sumHi (l ++ [x]) = sumHi l + x.fHi := by simp [sumHi, List.sum_append]
def RgE (x : TSpan) : Prop := 0 ≤ x.fLo ∧ x.fLo ≤ x.fHi ∧ x.fHi ≤ 50
theorem sum_rg : ∀ (l : List TSpan), (∀ x ∈ l, RgE x) → (0 ≤ sumLo l ∧ sumLo l ≤ sumHi l ∧ sumHi l ≤ 50 * l.length)
  | [], _ => by simp [sumLo, sumHi]
  | x :: l, h => by
    have ih := sum_rg l (fun y hy => h y (List.mem_cons_of_mem _ hy))
    have hx := h x (List.mem_cons_self ..)
    unfold RgE at hx
    have e1 : sumLo (x :: l) = x.fLo + sumLo l := by simp [sumLo]
    have e2 : sumHi (x :: l) = x.fHi + sumHi l := by simp [sumHi]
    rw [e1, e2, List.length_cons]
    omega
theorem take_rg {l : List TSpan} (h : ∀ x ∈ l, RgE x) (k : Nat) : ∀ x ∈ l.take k, RgE x := fun x hx => h x (List.mem_of_mem_take hx)
theorem sumSpan_lo {l : List TSpan} (hl : l.length ≤ 1000) (h : ∀ x ∈ l, RgE x) : sample_sum_calx_api_Span l (fun x => sample_Together_1 x) = some (sumLo l) := by
  unfold sample_sum_calx_api_Span
  have := loop_run (body := sample_sum_calx_api_Span_l1 l (fun x => sample_Together_1 x)) (fun k => (sumLo (l.take k), (k : Int))) l.length (t := (sumLo l, (l.length : Int))) (fun k hk => by
    have h1 := sum_rg _ (take_rg h k)
    have h2 := h l[k] (List.getElem_mem _)
    unfold RgE at h2
    rw [List.length_take] at h1
    unfold sample_sum_calx_api_Span_l1; dsimp only
    rw [ite_t (by omega), guardO_pos (by omega), etaS, rdL_nat hk]
    simp only [sample_Together_1, Option.bind_some]
    rw [w64_id (x := sumLo (l.take k) + _) (by omega) (by omega), w64_succ (by omega), take_succ hk, sumLo_snoc]) (by
    unfold sample_sum_calx_api_Span_l1; dsimp only
    rw [ite_f (by omega), List.take_length])
  have h0 : loopO (sample_sum_calx_api_Span_l1 l (fun x => sample_Together_1 x)) (0, 0) = _ := this
  rw [h0]; rfl
theorem sumSpan_hi {l : List TSpan} (hl : l.length ≤ 1000) (h : ∀ x ∈ l, RgE x) : sample_sum_calx_api_Span l (fun x => sample_Together_2 x) = some (sumHi l) := by
  unfold sample_sum_calx_api_Span
  have := loop_run (body := sample_sum_calx_api_Span_l1 l (fun x => sample_Together_2 x)) (fun k => (sumHi (l.take k), (k : Int))) l.length (t := (sumHi l, (l.length : Int))) (fun k hk => by
    have h1 := sum_rg _ (take_rg h k)
    have h2 := h l[k] (List.getElem_mem _)
    unfold RgE at h2
    rw [List.length_take] at h1
    unfold sample_sum_calx_api_Span_l1; dsimp only
    rw [ite_t (by omega), guardO_pos (by omega), etaS, rdL_nat hk]
    simp only [sample_Together_2, Option.bind_some]
    rw [w64_id (x := sumHi (l.take k) + _) (by omega) (by omega), w64_succ (by omega), take_succ hk, sumHi_snoc]) (by
    unfold sample_sum_calx_api_Span_l1; dsimp only
    rw [ite_f (by omega), List.take_length])
  have h0 : loopO (sample_sum_calx_api_Span_l1 l (fun x => sample_Together_2 x)) (0, 0) = _ := this
  rw [h0]; rfl
theorem Tog_l2 {l : List TBatch} (hl : l.length ≤ 1000) (hc : ∀ b ∈ l, CheckS b = 0) {s : Int} (hs : 0 ≤ s ∧ s ≤ 2) : loopO (sample_Together_l2 l s) (0, ([] : List TSpan)) = some ((l.length : Int), endsL l s) := by
  have := loop_run (body := sample_Together_l2 l s) (fun k => ((k : Int), endsL (l.take k) s)) l.length (t := ((l.length : Int), endsL l s)) (fun k hk => by
    unfold sample_Together_l2; dsimp only
    rw [ite_t (by omega), guardO_pos (by omega), etaB, rdL_nat hk, ends_spec (Check_okB (hc _ (List.getElem_mem _))) hs, bnd rfl, guardO_pos (by unfold endsL; rw [List.length_map, List.length_take]; omega), w64_succ (by omega), take_succ hk]
    unfold endsL
    rw [List.map_append]; rfl) (by
    unfold sample_Together_l2; dsimp only
    rw [ite_f (by omega), List.take_length])
  exact this
theorem endsL_rg {l : List TBatch} (hc : ∀ b ∈ l, CheckS b = 0) {s : Int} (hs : 0 ≤ s ∧ s ≤ 2) : ∀ x ∈ endsL l s, RgE x := fun x hx => by
  obtain ⟨b, hb, rfl⟩ := List.mem_map.1 hx
  have := Ends_rg (hc b hb) hs
  unfold RgE
  omega
theorem RTog_l2 {l : List TBatch} (hl : l.length ≤ 1000) (hc : ∀ b ∈ l, CheckS b = 0) {s : Int} (hs : 0 ≤ s ∧ s ≤ 2) : loopO (calxref03_Together_l2 l s) (0, 0, 0, ([] : List TSpan)) = some (sumLo (endsL l s), sumHi (endsL l s), (l.length : Int), endsL l s) := by
  have := loop_run (body := calxref03_Together_l2 l s) (fun k => (sumLo (endsL (l.take k) s), sumHi (endsL (l.take k) s), (k : Int), endsL (l.take k) s)) l.length (t := (sumLo (endsL l s), sumHi (endsL l s), (l.length : Int), endsL l s)) (fun k hk => by
    have h1 := sum_rg _ (endsL_rg (l := l.take k) (fun b hb => hc b (List.mem_of_mem_take hb)) hs)
    have h2 := Ends_rg (hc l[k] (List.getElem_mem _)) hs
    have h3 : (endsL (l.take k) s).length = k := by unfold endsL; rw [List.length_map, List.length_take]; omega
    rw [h3] at h1
    unfold calxref03_Together_l2; dsimp only
    rw [ite_t (by omega), guardO_pos (by omega), etaB, rdL_nat hk, ref_ends_spec (hc _ (List.getElem_mem _)) hs, bnd rfl, guardO_pos (by omega), w64_succ (by omega), w64_id (x := sumLo _ + _) (by omega) (by omega), w64_id (x := sumHi _ + _) (by omega) (by omega), take_succ hk]
    unfold endsL
    rw [List.map_append]
    simp only [List.map_cons, List.map_nil]
    rw [sumLo_snoc, sumHi_snoc]) (by
    unfold calxref03_Together_l2; dsimp only
    rw [ite_f (by omega), List.take_length])
  exact this
/-- What the others leave. -/
def cutS (lo hi a c : Int) (x : TSpan) : TSpan := ⟨max x.fLo (a - (hi - x.fHi)), min x.fHi (c - (lo - x.fLo))⟩
theorem Tog_l3 {u : Int} {e : List TSpan} (hl : e.length ≤ 1000) (h : ∀ x ∈ e, RgE x) (p : TSpan) (h1 : sumLo e ≤ p.fHi) (h2 : p.fLo ≤ sumHi e) :
    loopO (sample_Together_l3 p (u, e) (sumLo e) (sumHi e)) (0, e) = some ((e.length : Int), e.map (cutS (sumLo e) (sumHi e) (max p.fLo (sumLo e)) (min p.fHi (sumHi e)))) := by
  have hr := sum_rg e h
  have := loop_run (body := sample_Together_l3 p (u, e) (sumLo e) (sumHi e)) (fun k => ((k : Int), (e.take k).map (cutS (sumLo e) (sumHi e) (max p.fLo (sumLo e)) (min p.fHi (sumHi e))) ++ e.drop k)) e.length (t := ((e.length : Int), e.map (cutS (sumLo e) (sumHi e) (max p.fLo (sumLo e)) (min p.fHi (sumHi e))))) (fun k hk => by
    have hx := h e[k] (List.getElem_mem _)
    unfold RgE at hx
    have hlen : ((e.take k).map (cutS (sumLo e) (sumHi e) (max p.fLo (sumLo e)) (min p.fHi (sumHi e)))).length = k := by rw [List.length_map, List.length_take]; omega
    have hd : e.drop k = e[k] :: e.drop (k + 1) := List.drop_eq_getElem_cons hk
    have hrd : rdL ((e.take k).map (cutS (sumLo e) (sumHi e) (max p.fLo (sumLo e)) (min p.fHi (sumHi e))) ++ e.drop k) (k : Int) = e[k] := by
      unfold rdL
      rw [Int.toNat_natCast, List.getD_eq_getElem?_getD, List.getElem?_append_right (by omega), hlen, Nat.sub_self, List.getElem?_drop, Nat.add_zero, List.getElem?_eq_getElem hk]
      rfl
    unfold sample_Together_l3; dsimp only
    rw [ite_t (by omega), guardO_pos (by omega), guardO_pos (by omega), hrd, w64_succ (by omega), w64_id (x := sumHi e - e[k].fHi) (by omega) (by omega), w64_id (x := sumLo e - e[k].fLo) (by omega) (by omega), w64_id (x := max p.fLo (sumLo e) - _) (by omega) (by omega), w64_id (x := min p.fHi (sumHi e) - _) (by omega) (by omega), Int.toNat_natCast]
    congr 3
    rw [List.set_append, hlen, if_neg (by omega), Nat.sub_self, hd, List.set_cons_zero, take_succ hk, List.map_append, List.append_assoc]
    rfl) (by
    unfold sample_Together_l3; dsimp only
    rw [ite_f (by omega), List.take_length, List.drop_length, List.append_nil])
  exact this
theorem RTog_l3 {l : List TBatch} {i : Int} {e : List TSpan} (hle : e.length = l.length) (hl : e.length ≤ 1000) (h : ∀ x ∈ e, RgE x) (p : TSpan) (h1 : sumLo e ≤ p.fHi) (h2 : p.fLo ≤ sumHi e) :
    loopO (calxref03_Together_l3 l p (sumLo e, sumHi e, i, e)) (0, ([] : List TSpan)) = some ((e.length : Int), e.map (cutS (sumLo e) (sumHi e) (max p.fLo (sumLo e)) (min p.fHi (sumHi e)))) := by
  have hr := sum_rg e h
  have := loop_run (body := calxref03_Together_l3 l p (sumLo e, sumHi e, i, e)) (fun k => ((k : Int), (e.take k).map (cutS (sumLo e) (sumHi e) (max p.fLo (sumLo e)) (min p.fHi (sumHi e))))) e.length (t := ((e.length : Int), e.map (cutS (sumLo e) (sumHi e) (max p.fLo (sumLo e)) (min p.fHi (sumHi e))))) (fun k hk => by
    have hx := h e[k] (List.getElem_mem _)
    unfold RgE at hx
    unfold calxref03_Together_l3; dsimp only
    rw [ite_t (by omega), guardO_pos (by omega), guardO_pos (by omega), guardO_pos (by omega), guardO_pos (by omega), guardO_pos (by rw [List.length_map, List.length_take]; omega), rdL_nat hk, w64_succ (by omega), w64_id (x := sumHi e - e[k].fHi) (by omega) (by omega), w64_id (x := sumLo e - e[k].fLo) (by omega) (by omega), w64_id (x := max p.fLo (sumLo e) - _) (by omega) (by omega), w64_id (x := min p.fHi (sumHi e) - _) (by omega) (by omega), take_succ hk, List.map_append]
    rfl) (by
    unfold calxref03_Together_l3; dsimp only
    rw [ite_f (by omega), List.take_length])
  exact this
/-- What Together says. -/
def TogS (l : List TBatch) (s : Int) (p : TSpan) : List TSpan × Int :=
  if 12 < l.length then ([], 2) else if fe l ≠ 0 then ([], fe l) else if ¬ (0 ≤ s ∧ s ≤ 2) ∨ p.fHi < p.fLo then ([], 1)
  else if p.fHi < sumLo (endsL l s) ∨ sumHi (endsL l s) < p.fLo then ([], 9)
  else ((endsL l s).map (cutS (sumLo (endsL l s)) (sumHi (endsL l s)) (max p.fLo (sumLo (endsL l s))) (min p.fHi (sumHi (endsL l s)))), 0)
theorem Together_spec (l : List TBatch) (s : Int) (p : TSpan) : sample_Together l s p = some (TogS l s p) := by
  unfold sample_Together TogS
  by_cases h12 : 12 < l.length
  · rw [if_pos h12, ite_t (by omega)]
  · rw [if_neg h12, ite_f (by omega)]
    rcases Tog_l1 l (by omega) with ⟨h0, h⟩ | ⟨h0, i, h⟩
    · rw [if_neg (by simpa using h0), h]
      dsimp only [Option.bind_some]
      rw [isSort_eq, bnd rfl]
      by_cases hs : ¬ (0 ≤ s ∧ s ≤ 2) ∨ p.fHi < p.fLo
      · rw [if_pos hs, if_pos (by simp; omega)]
      · rw [if_neg hs, if_neg (by simp; omega)]
        have hs' : (0 ≤ s ∧ s ≤ 2) ∧ p.fLo ≤ p.fHi := by omega
        have hc := fe_0 l h0
        have hlen : (endsL l s).length = l.length := by unfold endsL; rw [List.length_map]
        rw [Tog_l2 (by omega) hc hs'.1]
        dsimp only [Option.bind_some]
        rw [sumSpan_lo (by omega) (endsL_rg hc hs'.1), sumSpan_hi (by omega) (endsL_rg hc hs'.1)]
        dsimp only [Option.bind_some]
        by_cases hcl : p.fHi < sumLo (endsL l s) ∨ sumHi (endsL l s) < p.fLo
        · rw [if_pos hcl, if_pos (by simp; omega)]
        · rw [if_neg hcl, if_neg (by simp; omega), Tog_l3 (by omega) (endsL_rg hc hs'.1) p (by omega) (by omega)]
          rfl
    · rw [if_pos h0, h]
      rfl
theorem ref_Together_spec (l : List TBatch) (s : Int) (p : TSpan) : calxref03_Together l s p = some ⟨(TogS l s p).1, (TogS l s p).2⟩ := by
  unfold calxref03_Together TogS
  by_cases h12 : 12 < l.length
  · rw [if_pos h12, ite_t (by omega)]
  · rw [if_neg h12, ite_f (by omega)]
    rcases RTog_l1 l (by omega) with ⟨h0, h⟩ | ⟨h0, i, h⟩
    · rw [if_neg (by simpa using h0), h]
      dsimp only [Option.bind_some]
      rw [in_eq, bnd rfl]
      by_cases hs : ¬ (0 ≤ s ∧ s ≤ 2) ∨ p.fHi < p.fLo
      · rw [if_pos hs, if_pos (by simp; omega)]
      · rw [if_neg hs, if_neg (by simp; omega)]
        have hs' : (0 ≤ s ∧ s ≤ 2) ∧ p.fLo ≤ p.fHi := by omega
        have hc := fe_0 l h0
        have hlen : (endsL l s).length = l.length := by unfold endsL; rw [List.length_map]
        rw [RTog_l2 (by omega) hc hs'.1]
        dsimp only [Option.bind_some]
        by_cases hcl : p.fHi < sumLo (endsL l s) ∨ sumHi (endsL l s) < p.fLo
        · rw [if_pos hcl, if_pos (by simp; omega)]
        · rw [if_neg hcl, if_neg (by simp; omega), RTog_l3 hlen (by omega) (endsL_rg hc hs'.1) p (by omega) (by omega)]
          rfl
    · rw [if_pos h0, h]
      rfl
theorem TogS_len (l : List TBatch) (s : Int) (p : TSpan) : (TogS l s p).1.length ≤ 12 := by
  unfold TogS
  by_cases h : 12 < l.length
  · rw [if_pos h]; simp
  · rw [if_neg h]
    split
    · simp
    · split
      · simp
      · split
        · simp
        · simp [endsL]; omega
theorem SampleTogether_true (l : List TBatch) (s : Int) (p : TSpan) (_ : Rg_list TBatch_rg l) (_ : Rg_i64 s) (_ : TSpan_rg p) : calxlaw03_SampleTogether l s p = some true := by
  unfold calxlaw03_SampleTogether
  have hl := TogS_len l s p
  simp only [head_true, Option.bind_some, Together_spec, ref_Together_spec, SameSpans_refl (show (TogS l s p).1.length ≤ 1000000000 by omega)]
  simp
end Go.Proofs.Ytepfgdfahinpkaa
