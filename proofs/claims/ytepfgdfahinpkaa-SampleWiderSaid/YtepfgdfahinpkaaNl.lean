/- Plain laws of sample: the shortest span; what SampleShortest's and SampleWider's plain functions say is true. No program in sight. -/
import Derived.Test.YtepfgdfahinpkaaNi
import Derived.Test.YtepfgdfahinpkaaNh
set_option linter.unusedVariables false
namespace Go.Proofs.Ytepfgdfahinpkaa

theorem lv_mulT {r : TRatio} (h : LvS r) {x : Int} (hx : 0 ≤ x ∧ x ≤ 495918532948104) : w64 (r.fNum * x) = r.fNum * x ∧ w64 (x * r.fDen) = x * r.fDen ∧ w64 (x * r.fNum) = x * r.fNum := by
  obtain ⟨h1, h2, _⟩ := h
  have a1 : 0 ≤ r.fNum * x ∧ r.fNum * x ≤ 10000 * 495918532948104 := ⟨Int.mul_nonneg h2.1 hx.1, Int.mul_le_mul (by omega) hx.2 hx.1 (by decide)⟩
  have a2 : 0 ≤ x * r.fDen ∧ x * r.fDen ≤ 495918532948104 * 10000 := ⟨Int.mul_nonneg hx.1 (by omega), Int.mul_le_mul hx.2 (by omega) (by omega) (by decide)⟩
  have a3 : 0 ≤ x * r.fNum ∧ x * r.fNum ≤ 495918532948104 * 10000 := ⟨Int.mul_nonneg hx.1 (by omega), Int.mul_le_mul hx.2 (by omega) (by omega) (by decide)⟩
  exact ⟨w64_id (by omega) (by omega), w64_id (by omega) (by omega), w64_id (by omega) (by omega)⟩
/-- A span of so many more than one number, from one on, is believed enough. -/
def Sp (w : List Int) (r : TRatio) (d i : Nat) : Prop := Reach r w.sum (spanS w (i : Int) ((i + d : Nat) : Int))
instance (w : List Int) (r : TRatio) (d i : Nat) : Decidable (Sp w r d i) := by unfold Sp; infer_instance
/-- The first that is believed enough. -/
def First (w : List Int) (r : TRatio) (n d i : Nat) : Prop := d + i ≤ n ∧ Sp w r d i ∧ (∀ j, j < i → ¬ Sp w r d j) ∧ ∀ e, e < d → ∀ j, e + j ≤ n → ¬ Sp w r e j
section
variable {w : List Int} {r : TRatio} {n : Nat}
theorem span_all (hn : w.length = n + 1) : spanS w 0 (n : Int) = w.sum := by
  unfold spanS
  rw [if_neg (by omega), show (max 0 (0 : Int)).toNat = 0 from rfl, List.drop_zero, List.take_of_length_le (by omega)]
theorem first_is (hw : Gd w) (hn : w.length = n + 1) (hr : LvS r) : ∃ d i, First w r n d i := by
  have hall : Sp w r n 0 := by
    unfold Sp
    have e : ((0 : Nat) : Int) = 0 := rfl
    rw [Nat.zero_add, e, span_all hn]
    exact reach_all hr (sum_nn hw.2.1)
  rcases @first_or (fun d => ∀ i, d + i ≤ n → ¬ Sp w r d i) (fun _ => Classical.propDecidable _) (n + 1) with h | ⟨d, hd, h1, h2⟩
  · exact absurd hall (h n (by omega) 0 (by omega))
  · rcases first_or (fun i => ¬ Sp w r d i) (n + 1 - d) with h | ⟨i, hi, h3, h4⟩
    · exact absurd (fun i hi => h i (by omega)) h2
    · exact ⟨d, i, by omega, Classical.byContradiction h4, h3, h1⟩
theorem sl2_step (hw : Gd w) (hn : w.length = n + 1) (hr : LvS r) {d i : Nat} (h : d + i ≤ n) (x y x' y' : Int) :
    sample_shortest_l2 w (r, w.sum) ((d : Int), x', y') ((i : Int), x, y) = if Sp w r d i then some (.inr (.inl ((i : Int), (i : Int), ((i + d : Nat) : Int)))) else some (.inl (((i + 1 : Nat) : Int), x, y)) := by
  have hl := hw.1
  have h1 := spanS_rg hw (i : Int) ((i + d : Nat) : Int)
  have h2 := sum_nn hw.2.1
  have h3 := hw.2.2
  unfold sample_shortest_l2; dsimp only
  rw [w64_id (x := (w.length : Int) - (d : Int)) (by omega) (by omega), ite_t (by omega), w64_id (x := (i : Int) + (d : Int)) (by omega) (by omega), ← Int.natCast_add, inSpan_eq hw (by omega) _ _ (by omega), bnd rfl]
  unfold sample_reaches_1
  rw [(lv_mulT hr (x := w.sum) ⟨h2, h3⟩).1, (lv_mulT hr (x := spanS w (i : Int) ((i + d : Nat) : Int)) (by omega)).2.1, bnd rfl, w64_succ (by omega)]
  by_cases hs : Sp w r d i
  · rw [if_pos hs, ite_t (show r.fNum * w.sum ≤ spanS w (i : Int) ((i + d : Nat) : Int) * r.fDen from hs)]
  · rw [if_neg hs, ite_f (show ¬ (r.fNum * w.sum ≤ spanS w (i : Int) ((i + d : Nat) : Int) * r.fDen) from hs)]
theorem sl2_none (hw : Gd w) (hn : w.length = n + 1) (hr : LvS r) {d : Nat} (hd : d ≤ n) (hall : ∀ i, d + i ≤ n → ¬ Sp w r d i) (x y x' y' : Int) :
    loopO (sample_shortest_l2 w (r, w.sum) ((d : Int), x', y')) (0, x, y) = some (.inr (((n + 1 - d : Nat) : Int), x, y)) := by
  have hl := hw.1
  have := loop_run (body := sample_shortest_l2 w (r, w.sum) ((d : Int), x', y')) (fun i => ((i : Int), x, y)) (n + 1 - d) (t := .inr (((n + 1 - d : Nat) : Int), x, y)) (fun i hi => by rw [sl2_step hw hn hr (by omega), if_neg (hall i (by omega))]) (by
    unfold sample_shortest_l2; dsimp only
    rw [w64_id (x := (w.length : Int) - (d : Int)) (by omega) (by omega), ite_f (by omega)])
  exact this
theorem sl2_some (hw : Gd w) (hn : w.length = n + 1) (hr : LvS r) {d i : Nat} (h : First w r n d i) (x y x' y' : Int) :
    loopO (sample_shortest_l2 w (r, w.sum) ((d : Int), x', y')) (0, x, y) = some (.inl ((i : Int), (i : Int), ((i + d : Nat) : Int))) := by
  obtain ⟨h1, h2, h3, _⟩ := h
  have := loop_run (body := sample_shortest_l2 w (r, w.sum) ((d : Int), x', y')) (fun i => ((i : Int), x, y)) i (t := .inl ((i : Int), (i : Int), ((i + d : Nat) : Int))) (fun j hj => by rw [sl2_step hw hn hr (by omega), if_neg (h3 j hj)]) (by rw [sl2_step hw hn hr h1, if_pos h2])
  exact this
theorem shortest_eq (hw : Gd w) (hn : w.length = n + 1) (hr : LvS r) {d i : Nat} (h : First w r n d i) : sample_shortest w r = some ⟨(i : Int), ((i + d : Nat) : Int)⟩ := by
  have hl := hw.1
  have h1 := h.1
  have := loop_run (body := sample_shortest_l1 w (r, w.sum)) (fun d => ((d : Int), 0, w64 ((w.length : Int) - 1))) d (t := ((d : Int), (i : Int), ((i + d : Nat) : Int))) (fun e he => by
    unfold sample_shortest_l1; dsimp only
    rw [ite_t (by omega), sl2_none hw hn hr (by omega) (h.2.2.2 e he), w64_succ (by omega)]
    rfl) (by
    unfold sample_shortest_l1; dsimp only
    rw [ite_t (by omega), sl2_some hw hn hr h]
    rfl)
  have h0 : loopO (sample_shortest_l1 w (r, w.sum)) (0, 0, w64 ((w.length : Int) - 1)) = _ := this
  unfold sample_shortest sample_reaches
  rw [sum_int_eq (by omega) hw.2.1 hw.2.2, bnd rfl, bnd rfl, h0]
  rfl
theorem rl4_step (hw : Gd w) (hn : w.length = n + 1) (hr : LvS r) {b : TBatch} (hb : b.fBarrows = (n : Int)) {d i : Nat} (h : d + i ≤ n) (f x y f' z' x' y' : Int) :
    calxref03_Shortest_l4 b r w w.sum (f', (d : Int), x', y') (f, (i : Int), x, y) = if Sp w r d i then some (.inr (.inl (0, (i : Int), (i : Int), ((i + d : Nat) : Int)))) else some (.inl (f, ((i + 1 : Nat) : Int), x, y)) := by
  have hl := hw.1
  have h1 := spanS_rg hw (i : Int) ((i + d : Nat) : Int)
  have h2 := sum_nn hw.2.1
  have h3 := hw.2.2
  unfold calxref03_Shortest_l4; dsimp only
  rw [w64_id (x := (i : Int) + (d : Int)) (by omega) (by omega), ite_t (by omega), ← Int.natCast_add, rweight_eq hw (by omega), bnd rfl]
  rw [(lv_mulT hr (x := w.sum) ⟨h2, h3⟩).2.2, (lv_mulT hr (x := spanS w (i : Int) ((i + d : Nat) : Int)) (by omega)).2.1, w64_succ (by omega), Int.mul_comm w.sum]
  by_cases hs : Sp w r d i
  · rw [if_pos hs, ite_t (show r.fNum * w.sum ≤ spanS w (i : Int) ((i + d : Nat) : Int) * r.fDen from hs)]
  · rw [if_neg hs, ite_f (show ¬ (r.fNum * w.sum ≤ spanS w (i : Int) ((i + d : Nat) : Int) * r.fDen) from hs)]
theorem rl4_none (hw : Gd w) (hn : w.length = n + 1) (hr : LvS r) {b : TBatch} (hb : b.fBarrows = (n : Int)) {d : Nat} (hd : d ≤ n) (hall : ∀ i, d + i ≤ n → ¬ Sp w r d i) (f x y f' x' y' : Int) :
    loopO (calxref03_Shortest_l4 b r w w.sum (f', (d : Int), x', y')) (f, 0, x, y) = some (.inr (f, ((n + 1 - d : Nat) : Int), x, y)) := by
  have hl := hw.1
  have := loop_run (body := calxref03_Shortest_l4 b r w w.sum (f', (d : Int), x', y')) (fun i => (f, (i : Int), x, y)) (n + 1 - d) (t := .inr (f, ((n + 1 - d : Nat) : Int), x, y)) (fun i hi => by rw [rl4_step hw hn hr hb (by omega) f x y f' 0, if_neg (hall i (by omega))]) (by
    unfold calxref03_Shortest_l4; dsimp only
    rw [w64_id (x := ((n + 1 - d : Nat) : Int) + (d : Int)) (by omega) (by omega), ite_f (by omega)])
  exact this
theorem rl4_some (hw : Gd w) (hn : w.length = n + 1) (hr : LvS r) {b : TBatch} (hb : b.fBarrows = (n : Int)) {d i : Nat} (h : First w r n d i) (f x y f' x' y' : Int) :
    loopO (calxref03_Shortest_l4 b r w w.sum (f', (d : Int), x', y')) (f, 0, x, y) = some (.inl (0, (i : Int), (i : Int), ((i + d : Nat) : Int))) := by
  obtain ⟨h1, h2, h3, _⟩ := h
  have := loop_run (body := calxref03_Shortest_l4 b r w w.sum (f', (d : Int), x', y')) (fun i => (f, (i : Int), x, y)) i (t := .inl (0, (i : Int), (i : Int), ((i + d : Nat) : Int))) (fun j hj => by rw [rl4_step hw hn hr hb (by omega) f x y f' 0, if_neg (h3 j hj)]) (by rw [rl4_step hw hn hr hb h1 f x y f' 0, if_pos h2])
  exact this
theorem rl3_run (hw : Gd w) (hn : w.length = n + 1) (hr : LvS r) {b : TBatch} (hb : b.fBarrows = (n : Int)) {d i : Nat} (h : First w r n d i) :
    loopO (calxref03_Shortest_l3 b r w w.sum) (0, 0, 0, 0) = some (.inl (0, (d : Int), (i : Int), ((i + d : Nat) : Int))) := by
  have hl := hw.1
  have h1 := h.1
  have := loop_run (body := calxref03_Shortest_l3 b r w w.sum) (fun d => (0, (d : Int), 0, 0)) d (t := .inl (0, (d : Int), (i : Int), ((i + d : Nat) : Int))) (fun e he => by
    unfold calxref03_Shortest_l3; dsimp only
    rw [ite_t (by omega), rl4_none hw hn hr hb (by omega) (h.2.2.2 e he), w64_succ (by omega)]
    rfl) (by
    unfold calxref03_Shortest_l3; dsimp only
    rw [ite_t (by omega), rl4_some hw hn hr hb h]
    rfl)
  exact this
end
/-- The error of a batch, a sort and a level. -/
def LevS (b : TBatch) (s : Int) (r : TRatio) : Int := if SortS b s = 0 then if LvS r then 0 else 1 else SortS b s
theorem LevS_0 {b : TBatch} {s : Int} {r : TRatio} : LevS b s r = 0 ↔ SortS b s = 0 ∧ LvS r := by
  unfold LevS
  by_cases h : SortS b s = 0
  · rw [if_pos h]
    by_cases h2 : LvS r
    · rw [if_pos h2]; exact ⟨fun _ => ⟨h, h2⟩, fun _ => rfl⟩
    · rw [if_neg h2]; exact ⟨fun x => absurd x (by decide), fun x => absurd x.2 h2⟩
  · rw [if_neg h]; exact ⟨fun x => absurd x h, fun x => absurd x.1 h⟩
theorem leveled_eq (b : TBatch) (s : Int) (r : TRatio) : sample_leveled b s r = some (LevS b s r) := by
  unfold sample_leveled LevS
  rw [sorted_spec, bnd rfl]
  by_cases h : SortS b s = 0
  · rw [if_pos h, if_neg (by simp [h]), isLevel_eq, bnd rfl]
    by_cases h2 : LvS r
    · rw [decide_eq_true h2, if_pos h2]; rfl
    · rw [decide_eq_false h2, if_neg h2]; rfl
  · rw [if_neg h, if_pos (by simpa using h)]
/-- Where no error is: the first span. -/
theorem short_ok {b : TBatch} {s : Int} {r : TRatio} (h : LevS b s r = 0) : CheckS b = 0 ∧ (0 ≤ s ∧ s ≤ 2) ∧ LvS r ∧ Gd (WtS b s) ∧ (WtS b s).length = b.fBarrows.toNat + 1 ∧ b.fBarrows = (b.fBarrows.toNat : Int) ∧ ∃ d i, First (WtS b s) r b.fBarrows.toNat d i := by
  obtain ⟨h1, h2⟩ := LevS_0.1 h
  obtain ⟨hc, hs⟩ := Sort_0.1 h1
  have hg := WtS_Gd hc hs
  have hb := Check_bd hc
  exact ⟨hc, hs, h2, hg, WtS_len b s, by omega, first_is hg (WtS_len b s) h2⟩
theorem Shortest_eq {b : TBatch} {s : Int} {r : TRatio} (h : LevS b s r = 0) {d i : Nat} (hf : First (WtS b s) r b.fBarrows.toNat d i) : sample_Shortest b s r = some (⟨(i : Int), ((i + d : Nat) : Int)⟩, 0) := by
  obtain ⟨hc, hs, hr, hg, hl, hb, _⟩ := short_ok h
  unfold sample_Shortest
  rw [leveled_eq, bnd rfl, h, if_neg (by simp), weights_eq (Check_okB hc) hs, bnd rfl, shortest_eq hg hl hr hf, bnd rfl]
theorem Shortest_err {b : TBatch} {s : Int} {r : TRatio} (h : LevS b s r ≠ 0) : sample_Shortest b s r = some (⟨0, 0⟩, LevS b s r) := by
  unfold sample_Shortest
  rw [leveled_eq, bnd rfl, if_pos (by simpa using h)]
theorem rShortest_eq {b : TBatch} {s : Int} {r : TRatio} (h : LevS b s r = 0) {d i : Nat} (hf : First (WtS b s) r b.fBarrows.toNat d i) : calxref03_Shortest b s r = some (⟨(i : Int), ((i + d : Nat) : Int)⟩, 0) := by
  obtain ⟨hc, hs, hr, hg, hl, hb, _⟩ := short_ok h
  unfold calxref03_Shortest
  rw [kind_spec, bnd rfl, (LevS_0.1 h).1, rlevel_eq, decide_eq_true hr, rweights_eq hc hs]
  simp only [Option.bind_some]
  rw [rtotal_eq hg (by omega)]
  simp only [Option.bind_some]
  rw [rl3_run hg hl hr hb hf]
  rfl
theorem rShortest_err {b : TBatch} {s : Int} {r : TRatio} (h : LevS b s r ≠ 0) : calxref03_Shortest b s r = some (⟨0, 0⟩, LevS b s r) := by
  unfold calxref03_Shortest
  rw [kind_spec, bnd rfl, rlevel_eq]
  by_cases h1 : SortS b s = 0
  · have h2 : ¬ LvS r := fun x => h (LevS_0.2 ⟨h1, x⟩)
    have e : LevS b s r = 1 := by unfold LevS; rw [if_pos h1, if_neg h2]
    rw [e, h1, decide_eq_false h2]
    rfl
  · have e : LevS b s r = SortS b s := by unfold LevS; rw [if_neg h1]
    rw [e, if_neg (by simpa using h1), bnd rfl, if_neg Bool.false_ne_true, if_pos (by simpa using h1)]
theorem CheckShortest_eq {b : TBatch} {s : Int} {r : TRatio} (h : LevS b s r = 0) {d i : Nat} (hf : First (WtS b s) r b.fBarrows.toNat d i) (p : TSpan) :
    sample_CheckShortest b s r p = some (if (i : Int) = p.fLo ∧ ((i + d : Nat) : Int) = p.fHi then 0 else 8) ∧ calxref03_CheckShortest b s r p = some (if (i : Int) = p.fLo ∧ ((i + d : Nat) : Int) = p.fHi then 0 else 8) := by
  obtain ⟨hc, hs, hr, hg, hl, hb, _⟩ := short_ok h
  have e1 : sample_CheckShortest b s r p = (if (!(((i : Int) == p.fLo) && (((i + d : Nat) : Int) == p.fHi))) = true then some 8 else some 0) := by
    unfold sample_CheckShortest
    rw [leveled_eq, bnd rfl, h, if_neg (by simp), weights_eq (Check_okB hc) hs, bnd rfl, shortest_eq hg hl hr hf, bnd rfl]
  have e2 : calxref03_CheckShortest b s r p = (if (!(((i : Int) == p.fLo) && (((i + d : Nat) : Int) == p.fHi))) = true then some 8 else some 0) := by
    unfold calxref03_CheckShortest
    rw [rShortest_eq h hf, bnd rfl, if_neg (by simp)]
  have e3 : (if (!(((i : Int) == p.fLo) && (((i + d : Nat) : Int) == p.fHi))) = true then some (8 : Int) else some 0) = some (if (i : Int) = p.fLo ∧ ((i + d : Nat) : Int) = p.fHi then 0 else 8) := by
    by_cases c : (i : Int) = p.fLo ∧ ((i + d : Nat) : Int) = p.fHi
    · rw [if_pos c, c.1, c.2]; simp
    · rw [if_neg c, if_pos]
      simp only [Bool.not_eq_true', Bool.and_eq_false_iff, beq_eq_false_iff_ne]
      by_cases c1 : (i : Int) = p.fLo
      · exact .inr fun c2 => c ⟨c1, c2⟩
      · exact .inl c1
  rw [e1, e2, e3]
  exact ⟨rfl, rfl⟩
theorem CheckShortest_err {b : TBatch} {s : Int} {r : TRatio} (h : LevS b s r ≠ 0) (p : TSpan) : sample_CheckShortest b s r p = some (LevS b s r) ∧ calxref03_CheckShortest b s r p = some (LevS b s r) := by
  unfold sample_CheckShortest calxref03_CheckShortest
  rw [leveled_eq, bnd rfl, if_pos (by simpa using h), rShortest_err h, bnd rfl]
  exact ⟨rfl, by rw [if_pos (by simpa using h)]⟩
theorem SampleShortest_true (b : TBatch) (s : Int) (r : TRatio) (p : TSpan) (_ : TBatch_rg b) (_ : Rg_i64 s) (_ : TRatio_rg r) (_ : TSpan_rg p) : calxlaw03_SampleShortest b s r p = some true := by
  unfold calxlaw03_SampleShortest
  rw [head_true, bnd rfl]
  by_cases h : LevS b s r = 0
  · obtain ⟨_, _, _, _, _, _, d, i, hf⟩ := short_ok h
    rw [Shortest_eq h hf, rShortest_eq h hf, (CheckShortest_eq h hf p).1, (CheckShortest_eq h hf p).2]
    simp
  · rw [Shortest_err h, rShortest_err h, (CheckShortest_err h p).1, (CheckShortest_err h p).2]
    simp
/-! ### The wider -/
theorem Wider_run {w : List Int} (hw : Gd w) {n d i : Nat} (hn : w.length = n + 1) (h : d + i ≤ n) (e e' : Int) :
    loopO (calxlaw03_SampleWider_l1 (⟨(i : Int), ((i + d : Nat) : Int)⟩, e) (w, e')) (0, 0, 0) = some (spanS w (i : Int) ((i + d : Nat) : Int), w.sum, (w.length : Int)) := by
  have hl := hw.1
  have ht := hw.2.2
  have := loop_run (body := calxlaw03_SampleWider_l1 (⟨(i : Int), ((i + d : Nat) : Int)⟩, e) (w, e')) (fun k => (((w.drop i).take (min k (i + d + 1) - i)).sum, (w.take k).sum, (k : Int))) w.length
    (t := (((w.drop i).take (min w.length (i + d + 1) - i)).sum, (w.take w.length).sum, (w.length : Int))) (fun k hk => by
      have a1 := take_sum_le hw.2.1 (k + 1)
      have a2 := sum_nn (l := w.take k) (fun x hx => hw.2.1 x (List.mem_of_mem_take hx))
      have a3 := hw.2.1 w[k] (List.getElem_mem _)
      rw [take_sum_succ hk] at a1
      have b1 := part_le hw.2.1 i (min (k + 1) (i + d + 1) - i)
      have b2 := sum_nn (part_nn hw.2.1 i (min k (i + d + 1) - i))
      unfold calxlaw03_SampleWider_l1; dsimp only
      rw [ite_t (by omega), guardO_pos (by omega), rdL_nat hk, take_sum_succ hk]
      by_cases c : i ≤ k ∧ k ≤ i + d
      · rw [if_pos (by rw [decide_eq_true (show (i : Int) ≤ (k : Int) by omega), decide_eq_true (show (k : Int) ≤ ((i + d : Nat) : Int) by omega)]; rfl), guardO_pos (by omega), w64_succ (by omega), w64_id (x := (w.take k).sum + w[k]) (by omega) (by omega)]
        have e1 : min (k + 1) (i + d + 1) - i = (k - i) + 1 := by omega
        have e2 : min k (i + d + 1) - i = k - i := by omega
        have e3 := drop_take_succ (w := w) (a := i) (j := k - i) (by omega)
        have e4 : w[i + (k - i)]'(by omega) = w[k] := by congr 1; omega
        rw [e1] at b1
        rw [e2] at b2
        rw [e4] at e3
        rw [e1, e2, e3]
        rw [e3] at b1
        rw [w64_id (by omega) (by omega)]
      · rw [if_neg (by simp only [Bool.and_eq_true, decide_eq_true_eq]; omega), w64_succ (by omega), w64_id (x := (w.take k).sum + w[k]) (by omega) (by omega)]
        have e1 : min (k + 1) (i + d + 1) - i = min k (i + d + 1) - i := by omega
        rw [e1]) (by
      unfold calxlaw03_SampleWider_l1; dsimp only
      rw [ite_f (by omega)])
  have h0 : loopO (calxlaw03_SampleWider_l1 (⟨(i : Int), ((i + d : Nat) : Int)⟩, e) (w, e')) (((w.drop i).take (min 0 (i + d + 1) - i)).sum, (w.take 0).sum, ((0 : Nat) : Int)) = _ := this
  rw [show min 0 (i + d + 1) - i = 0 by omega, List.take_zero, List.take_zero] at h0
  have h1 : loopO (calxlaw03_SampleWider_l1 (⟨(i : Int), ((i + d : Nat) : Int)⟩, e) (w, e')) (0, 0, 0) = _ := h0
  rw [h1, List.take_length]
  unfold spanS
  rw [if_neg (by omega), show (max 0 (i : Int)).toNat = i by omega, show (min ((w.length : Int) - 1) ((i + d : Nat) : Int) + 1).toNat = min w.length (i + d + 1) by omega]
theorem SampleWider_true (b : TBatch) (s : Int) (r q : TRatio) (_ : TBatch_rg b) (_ : Rg_i64 s) (_ : TRatio_rg r) (_ : TRatio_rg q) : calxlaw03_SampleWider b s r q = some true := by
  unfold calxlaw03_SampleWider
  rw [head_true, bnd rfl]
  by_cases h : LevS b s r = 0
  · obtain ⟨hc, hs, hr, hg, hl, hb, d, i, hf⟩ := short_ok h
    rw [Shortest_eq h hf, bnd rfl]
    by_cases h2 : LevS b s q = 0
    · obtain ⟨_, _, hq, _, _, _, e, j, hf2⟩ := short_ok h2
      rw [Shortest_eq h2 hf2, bnd rfl]
      have h1 := hf.1
      have h3 := hf2.1
      have hN := Check_bd hc
      have c1 := spanS_rg hg (i : Int) ((i + d : Nat) : Int)
      have c2 := hg.2.2
      have c3 := sum_nn hg.2.1
      have lr := hr.1; have lr' := hr.2.1; have lq := hq.1; have lq' := hq.2.1
      have m1 : 0 ≤ r.fNum * q.fDen ∧ r.fNum * q.fDen ≤ 10000 * 10000 := ⟨Int.mul_nonneg (by omega) (by omega), Int.mul_le_mul (by omega) (by omega) (by omega) (by decide)⟩
      have m2 : 0 ≤ q.fNum * r.fDen ∧ q.fNum * r.fDen ≤ 10000 * 10000 := ⟨Int.mul_nonneg (by omega) (by omega), Int.mul_le_mul (by omega) (by omega) (by omega) (by decide)⟩
      rw [if_neg (by simp), (CheckShortest_eq h hf _).1, if_pos ⟨rfl, rfl⟩, bnd rfl, if_neg (by simp; omega), Weights_spec, (LevS_0.1 h).1, if_pos rfl, bnd rfl, if_neg (by simp [hl]; omega)]
      rw [Wider_run hg hl h1, bnd rfl]
      dsimp only
      rw [(lv_mulT hr (x := (WtS b s).sum) ⟨c3, c2⟩).2.2, (lv_mulT hr (x := spanS (WtS b s) (i : Int) ((i + d : Nat) : Int)) (by omega)).2.1, w64_id (x := r.fNum * q.fDen) (by omega) (by omega), w64_id (x := q.fNum * r.fDen) (by omega) (by omega),
        w64_id (x := ((i + d : Nat) : Int) - (i : Int)) (by omega) (by omega), w64_id (x := ((j + e : Nat) : Int) - (j : Int)) (by omega) (by omega)]
      have k1 : (WtS b s).sum * r.fNum ≤ spanS (WtS b s) (i : Int) ((i + d : Nat) : Int) * r.fDen := by rw [Int.mul_comm]; exact hf.2.1
      rw [decide_eq_true k1]
      by_cases hle : r.fNum * q.fDen ≤ q.fNum * r.fDen
      · have k2 : d ≤ e := Nat.le_of_not_lt fun hlt => hf.2.2.2 e hlt j (by omega) (reach_less hr hq hle c3 hf2.2.1)
        rw [decide_eq_true hle, decide_eq_true (show ((i + d : Nat) : Int) - (i : Int) ≤ ((j + e : Nat) : Int) - (j : Int) by omega)]
        rfl
      · rw [decide_eq_false hle]
        rfl
    · rw [Shortest_err h2, bnd rfl, if_pos (by simpa using h2)]
  · rw [Shortest_err h, bnd rfl]
    by_cases h2 : LevS b s q = 0
    · obtain ⟨_, _, _, _, _, _, e, j, hf2⟩ := short_ok h2
      rw [Shortest_eq h2 hf2, bnd rfl, if_pos (by simpa using h)]
    · rw [Shortest_err h2, bnd rfl, if_pos (by simp [h])]
end Go.Proofs.Ytepfgdfahinpkaa
