/- Plain laws of sample: the reference's weights, Mean and Next; what SampleBelief's plain function says is true. No program in sight. -/
import Derived.Test.YtepfgdfahinpkaaNh
import Derived.Test.YtepfgdfahinpkaaNc
set_option linter.unusedVariables false
namespace Go.Proofs.Ytepfgdfahinpkaa

def WtL (b : TBatch) (s : Int) (l : List TKinds) : List Int := (List.range (b.fBarrows.toNat + 1)).map fun m : Nat => (wsN b.fSeen s l (m : Int) : Int)
theorem WtL_all (b : TBatch) (s : Int) : WtL b s (wl b) = WtS b s := rfl
theorem WtL_len (b : TBatch) (s : Int) (l : List TKinds) : (WtL b s l).length = b.fBarrows.toNat + 1 := by simp [WtL]
theorem WtL_nil (b : TBatch) (s : Int) : WtL b s [] = List.replicate (b.fBarrows.toNat + 1) 0 := by
  unfold WtL
  have : (fun m : Nat => (wsN b.fSeen s [] (m : Int) : Int)) = fun _ => 0 := by funext m; simp [wsN]
  rw [this, List.map_const', List.length_range]
theorem WtL_get (b : TBatch) (s : Int) (l : List TKinds) {m : Nat} (h : m < b.fBarrows.toNat + 1) : (WtL b s l)[m]'(by rw [WtL_len]; exact h) = (wsN b.fSeen s l (m : Int) : Int) := by
  simp [WtL]
theorem WtL_snoc (b : TBatch) (s : Int) (l : List TKinds) (k : TKinds) (v : Nat) (hv : kv s k = (v : Int)) (h : v < b.fBarrows.toNat + 1) :
    (WtL b s l).set v ((wsN b.fSeen s l (v : Int) : Int) + (wtN b.fSeen k : Int)) = WtL b s (l ++ [k]) := by
  apply List.ext_getElem
  · rw [List.length_set, WtL_len, WtL_len]
  · intro m h1 h2
    rw [WtL_len] at h2
    rw [List.getElem_set, WtL_get b s (l ++ [k]) h2, wsN_snoc]
    by_cases e : v = m
    · subst e
      rw [if_pos rfl, if_pos hv]; rfl
    · rw [if_neg e, if_neg (by rw [hv]; omega), WtL_get b s l h2]; rfl
theorem etaK (x : TKinds) : TKinds.mk x.x0 x.x1 x.x2 = x := rfl
theorem rweights_eq {b : TBatch} (hc : CheckS b = 0) {s : Int} (hs : 0 ≤ s ∧ s ≤ 2) : calxref03_weights b s = some (WtS b s) := by
  have hb := Check_bd hc
  have hlen := wl_len_le b (by omega)
  have htot := totN_le (Check_okB hc)
  have hw : Int.toNat (w64 (b.fBarrows + 1)) = b.fBarrows.toNat + 1 := by rw [w64_id (by omega) (by omega)]; omega
  unfold calxref03_weights
  rw [guardO_pos (by rw [w64_id (by omega) (by omega)]; omega), wholes_ref b (by omega), bnd rfl, hw, ← WtL_nil b s]
  have := loop_run (body := calxref03_weights_l1 b s (wl b)) (fun k => ((k : Int), WtL b s ((wl b).take k))) (wl b).length (t := (((wl b).length : Int), WtS b s)) (fun k hk => by
    obtain ⟨x, hx⟩ : ∃ x, x = (wl b)[k] := ⟨_, rfl⟩
    have hm : x ∈ wl b := by rw [hx]; exact List.getElem_mem _
    have hkm := mem_wl hm (by omega)
    have hkv := kv_mem hm (by omega) (s := s) (by omega)
    obtain ⟨v, hv⟩ : ∃ v : Nat, kv s x = (v : Int) := ⟨(kv s x).toNat, by omega⟩
    have hvN : v < b.fBarrows.toNat + 1 := by omega
    have e : sel3 x.x0 x.x1 x.x2 s = (v : Int) := hv
    have hsum : wsN b.fSeen s ((wl b).take k ++ [x]) (v : Int) ≤ totN b := by
      rw [hx, ← take_succ hk]
      refine Nat.le_trans (wsN_le _ _ _ _) ?_
      unfold totN
      conv => rhs; rw [← List.take_append_drop (k + 1) (wl b)]
      rw [List.map_append, List.sum_append_nat]
      omega
    rw [wsN_snoc, if_pos hv] at hsum
    unfold calxref03_weights_l1; dsimp only
    rw [ite_t (by omega), guardO_pos (by omega), guardO_pos (by omega), rdL_nat hk, ← hx, e, hw, guardO_pos (by omega), guardO_pos (by omega), etaK, rways_eq hkm.2.1 (by omega) (by omega), bnd rfl, guardO_pos (by omega), w64_succ (by omega), rdL_nat (by rw [WtL_len]; exact hvN), WtL_get b s _ hvN, w64_id (by omega) (by omega), Int.toNat_natCast, WtL_snoc b s _ x v hv hvN, take_succ hk, ← hx]) (by
    unfold calxref03_weights_l1; dsimp only
    rw [ite_f (by omega), List.take_length]
    rfl)
  have h0 : loopO (calxref03_weights_l1 b s (wl b)) (0, WtL b s []) = _ := this
  rw [h0]; rfl
theorem drop_take_succ {w : List Int} {a j : Nat} (h : a + j < w.length) : ((w.drop a).take (j + 1)).sum = ((w.drop a).take j).sum + w[a + j] := by
  rw [take_sum_succ (by rw [List.length_drop]; omega), List.getElem_drop]
theorem rweight_eq {w : List Int} (h : Gd w) (h1 : 1 ≤ w.length) (lo hi : Int) : calxref03_weight w ⟨lo, hi⟩ = some (spanS w lo hi) := by
  obtain ⟨hlen, h0, hs⟩ := h
  unfold calxref03_weight spanS
  dsimp only
  by_cases hc : min ((w.length : Int) - 1) hi < max 0 lo
  · rw [if_pos hc, loopO_stop (t := (0, max 0 lo)) (by
      unfold calxref03_weight_l1; dsimp only
      rw [if_neg (by simp; omega)])]
    rfl
  · rw [if_neg hc]
    obtain ⟨a, ha⟩ : ∃ a : Nat, max 0 lo = (a : Int) := ⟨(max 0 lo).toNat, by omega⟩
    obtain ⟨d, hd⟩ : ∃ d : Nat, (min ((w.length : Int) - 1) hi + 1).toNat - a = d := ⟨_, rfl⟩
    rw [ha, Int.toNat_natCast, hd]
    have := loop_run (body := calxref03_weight_l1 w ⟨lo, hi⟩) (fun j => (((w.drop a).take j).sum, ((a + j : Nat) : Int))) d (t := (((w.drop a).take d).sum, ((a + d : Nat) : Int))) (fun j hj => by
      have b1 := part_le h0 a (j + 1)
      have b2 := sum_nn (part_nn h0 a j)
      have hlt : a + j < w.length := by omega
      have b3 := h0 w[a + j] (List.getElem_mem _)
      rw [drop_take_succ hlt] at b1
      unfold calxref03_weight_l1; dsimp only
      rw [if_pos (by simp; omega), guardO_pos (by omega), rdL_nat hlt, w64_id (x := ((w.drop a).take j).sum + _) (by omega) (by omega), w64_succ (by omega), drop_take_succ hlt]
      rfl) (by
      unfold calxref03_weight_l1; dsimp only
      rw [if_neg (by simp; omega)])
    have h2 : loopO (calxref03_weight_l1 w ⟨lo, hi⟩) (0, (a : Int)) = _ := this
    rw [h2]; rfl
theorem rtotal_eq {w : List Int} (h : Gd w) (h1 : 1 ≤ w.length) : calxref03_total w = some w.sum := by
  unfold calxref03_total
  rw [rweight_eq h h1, bnd rfl]
  unfold spanS
  rw [if_neg (by omega), show (max 0 (0 : Int)).toNat = 0 from rfl, List.drop_zero, List.take_of_length_le (by omega)]
theorem rWeights_spec (b : TBatch) (s : Int) : calxref03_Weights b s = some ⟨if SortS b s = 0 then WtS b s else [], SortS b s⟩ := by
  unfold calxref03_Weights
  rw [kind_spec, bnd rfl]
  by_cases h : SortS b s = 0
  · rw [if_pos h, h, rweights_eq (Sort_0.1 h).1 (Sort_0.1 h).2]; rfl
  · rw [if_neg h, if_pos (by simpa using h)]
def BelS (b : TBatch) (s lo hi : Int) : TRatio × Int := if SortS b s = 0 then if hi < lo then (⟨0, 0⟩, 1) else (RatS (spanS (WtS b s) lo hi).toNat (totN b), 0) else (⟨0, 0⟩, SortS b s)
theorem Bel_eq (b : TBatch) (s lo hi : Int) (hh : -9223372036854775808 ≤ hi) : sample_Believed b s ⟨lo, hi⟩ = some (BelS b s lo hi) := by
  unfold BelS
  by_cases h : SortS b s = 0
  · rw [if_pos h]
    by_cases hl : hi < lo
    · rw [if_pos hl]
      unfold sample_Believed
      rw [sorted_spec, bnd rfl, h]
      dsimp only
      rw [if_neg (by simp), ite_t hl]
    · rw [if_neg hl, Believed_spec h (by omega) hh]
  · rw [if_neg h]
    unfold sample_Believed
    rw [sorted_spec, bnd rfl, if_pos (by simpa using h)]
theorem rBel_eq (b : TBatch) (s lo hi : Int) : calxref03_Believed b s ⟨lo, hi⟩ = some (BelS b s lo hi) := by
  unfold BelS calxref03_Believed
  rw [kind_spec, bnd rfl]
  dsimp only
  by_cases h : SortS b s = 0
  · obtain ⟨hc, hs⟩ := Sort_0.1 h
    have h2 := tot_pos hc
    have h3 := totN_le (Check_okB hc)
    have hg := WtS_Gd hc hs
    have hr := spanS_rg hg lo hi
    rw [WtS_tot hc hs] at hr
    rw [if_pos h, if_neg (by simp [h])]
    by_cases hl : hi < lo
    · rw [if_pos hl, ite_t hl]
    · rw [if_neg hl, ite_f hl, rweights_eq hc hs, bnd rfl, rweight_eq hg (by rw [WtS_len]; omega), bnd rfl, rtotal_eq hg (by rw [WtS_len]; omega), bnd rfl, WtS_tot hc hs]
      have := ref_ratio_eq (a := (spanS (WtS b s) lo hi).toNat) (b := totN b) (by omega) (by omega) (by omega)
      rw [Int.toNat_of_nonneg hr.1] at this
      rw [this]; rfl
  · rw [if_neg h, if_pos (by simpa using h)]
def MeanS (b : TBatch) (s : Int) : TRatio × Int := if SortS b s = 0 then (RatS (momI b s).toNat (totN b), 0) else (⟨0, 0⟩, SortS b s)
theorem Mean_eq (b : TBatch) (s : Int) : sample_Mean b s = some (MeanS b s) := by
  unfold MeanS
  by_cases h : SortS b s = 0
  · rw [if_pos h, Mean_spec h]
  · rw [if_neg h]
    unfold sample_Mean
    rw [sorted_spec, bnd rfl, if_pos (by simpa using h)]
theorem rtot_run {w : List Int} (h : Gd w) {less : Int} (hl : 0 ≤ less ∧ less ≤ 51) (body : Int × Int → Option ((Int × Int) ⊕ (Int × Int))) (hb : ∀ s, body s = (if decide (s.2 < ((w.length : Nat) : Int)) = true then guardO ((0 : Int) ≤ s.2 ∧ s.2 < ((w.length : Nat) : Int)) (some (.inl (w64 (s.1 + (w64 ((w64 (s.2 - less)) * (rdL w s.2)))), w64 (s.2 + 1)))) else some (.inr (s.1, s.2)))) :
    loopO body (0, 0) = some (totP w less w.length, (w.length : Int)) := by
  have e : body = sample_total_l1 w less := by funext s; rw [hb]; rfl
  have := total_eq h hl
  unfold sample_total at this
  rw [e]
  cases hq : loopO (sample_total_l1 w less) (0, 0) with
  | none => rw [hq] at this; cases this
  | some u =>
    -- the loop ends at the list's end
    have h2 := h
    obtain ⟨hlen, h0, hs⟩ := h2
    have hrun := loop_run (body := sample_total_l1 w less) (fun k => (totP w less k, (k : Int))) w.length (t := (totP w less w.length, (w.length : Int))) (fun k hk => by
      have b1 := totP_bd ⟨hlen, h0, hs⟩ hl k (by omega)
      have b2 := totP_bd ⟨hlen, h0, hs⟩ hl (k + 1) (by omega)
      have a1 := take_sum_le h0 (k + 1)
      have a2 := take_sum_le h0 k
      have a3 := h0 w[k] (List.getElem_mem _)
      have a4 := mul_bd (a := (k : Int) - less) (c := 51) (by decide) (by omega) (by omega) a3
      have a5 : w[k] ≤ 495918532948104 := by
        have := sum_nn (l := w.take k) (fun x hx => h0 x (List.mem_of_mem_take hx))
        rw [take_sum_succ hk] at a1
        omega
      have e : totP w less (k + 1) = totP w less k + ((k : Int) - less) * w[k] := by unfold totP; rw [rs_succ, getD_get hk]
      unfold sample_total_l1; dsimp only
      rw [ite_t (by omega), guardO_pos (by omega), rdL_nat hk, w64_id (x := (k : Int) - less) (by omega) (by omega), w64_id (x := ((k : Int) - less) * w[k]) (by omega) (by omega), w64_id (x := totP w less k + _) (by omega) (by omega), w64_succ (by omega), e]) (by
      unfold sample_total_l1; dsimp only
      rw [ite_f (by omega)])
    have h3 : loopO (sample_total_l1 w less) (0, 0) = _ := hrun
    rw [← hq, h3]
theorem rMean_eq (b : TBatch) (s : Int) : calxref03_Mean b s = some (MeanS b s) := by
  unfold MeanS calxref03_Mean
  rw [kind_spec, bnd rfl]
  by_cases h : SortS b s = 0
  · obtain ⟨hc, hs⟩ := Sort_0.1 h
    have h1 := mom_nat hc hs
    have h2 := tot_pos hc
    have h3 := totN_le (Check_okB hc)
    have hg := WtS_Gd hc hs
    have hrun : loopO (calxref03_Mean_l1 (WtS b s)) (0, 0) = some (totP (WtS b s) 0 (WtS b s).length, ((WtS b s).length : Int)) := by
      refine rtot_run hg (less := 0) (by omega) _ (fun st => ?_)
      unfold calxref03_Mean_l1
      by_cases hlt : st.2 < (((WtS b s).length : Nat) : Int)
      · rw [ite_t hlt, ite_t hlt]
        by_cases hge : 0 ≤ st.2
        · rw [guardO_pos ⟨hge, hlt⟩, guardO_pos ⟨hge, hlt⟩, Int.sub_zero, w64_id (x := st.2) (by omega) (by have := hg.1; omega)]
        · unfold guardO
          rw [if_neg (fun x => hge x.1), if_neg (fun x => hge x.1)]
      · rw [ite_f hlt, ite_f hlt]
    rw [if_pos h, if_neg (by simp [h]), rweights_eq hc hs, bnd rfl, hrun, bnd rfl, rtotal_eq hg (by rw [WtS_len]; omega), bnd rfl, totP_WtS hc hs, WtS_tot hc hs, Int.zero_mul, Int.sub_zero]
    have := ref_ratio_eq (a := (momI b s).toNat) (b := totN b) (by omega) (by omega) (by omega)
    rw [Int.toNat_of_nonneg h1.1] at this
    rw [this]; rfl
  · rw [if_neg h, if_pos (by simpa using h)]
def NextS (b : TBatch) (s : Int) : TRatio × Int := if SortS b s = 0 then if b.fBarrows - (b.fSeen.x0 + b.fSeen.x1 + b.fSeen.x2) = 0 then (⟨0, 0⟩, 5) else (RatS (momI b s - sel3 b.fSeen.x0 b.fSeen.x1 b.fSeen.x2 s * (totN b : Int)).toNat (totN b * (b.fBarrows - (b.fSeen.x0 + b.fSeen.x1 + b.fSeen.x2)).toNat), 0) else (⟨0, 0⟩, SortS b s)
theorem Next_eq (b : TBatch) (s : Int) : sample_Next b s = some (NextS b s) := by
  unfold NextS
  by_cases h : SortS b s = 0
  · rw [if_pos h, Next_spec h]
  · rw [if_neg h]
    unfold sample_Next
    rw [sorted_spec, bnd rfl, if_pos (by simpa using h)]
theorem rNext_eq (b : TBatch) (s : Int) : calxref03_Next b s = some (NextS b s) := by
  unfold NextS calxref03_Next
  rw [kind_spec, bnd rfl]
  by_cases h : SortS b s = 0
  · obtain ⟨hc, hs⟩ := Sort_0.1 h
    have hb := Check_bd hc
    have h1 := mom_nat hc hs
    have h2 := tot_pos hc
    have h3 := totN_le (Check_okB hc)
    have h4 := mom_seen hc hs
    have hg := WtS_Gd hc hs
    have hsn : 0 ≤ sel3 b.fSeen.x0 b.fSeen.x1 b.fSeen.x2 s ∧ sel3 b.fSeen.x0 b.fSeen.x1 b.fSeen.x2 s ≤ 50 := by
      have h3 : s = 0 ∨ s = 1 ∨ s = 2 := by omega
      rcases h3 with rfl | rfl | rfl <;> simp only [sel3_0, sel3_1, sel3_2] <;> omega
    have h5 : 0 ≤ sel3 b.fSeen.x0 b.fSeen.x1 b.fSeen.x2 s * (totN b : Int) := Int.mul_nonneg hsn.1 (by omega)
    have e1 : min b.fSeen.x0 51 + min b.fSeen.x1 51 + min b.fSeen.x2 51 = b.fSeen.x0 + b.fSeen.x1 + b.fSeen.x2 := by omega
    rw [if_pos h, if_neg (by simp [h]), all_nn hb.2.1, bnd rfl, e1, w64_id (x := b.fBarrows - _) (by omega) (by omega)]
    by_cases hl : b.fBarrows - (b.fSeen.x0 + b.fSeen.x1 + b.fSeen.x2) = 0
    · rw [if_pos (by simpa using hl), if_pos hl]
    · obtain ⟨lf, hlf⟩ : ∃ lf : Nat, (lf : Int) = b.fBarrows - (b.fSeen.x0 + b.fSeen.x1 + b.fSeen.x2) := ⟨(b.fBarrows - (b.fSeen.x0 + b.fSeen.x1 + b.fSeen.x2)).toNat, by omega⟩
      have h6 : totN b * lf ≤ 495918532948104 * 50 := Nat.mul_le_mul h3 (by omega)
      have h7 : 0 < totN b * lf := Nat.mul_pos (by omega) (by omega)
      have hrun : loopO (calxref03_Next_l1 b s (WtS b s)) (0, 0) = some (totP (WtS b s) (sel3 b.fSeen.x0 b.fSeen.x1 b.fSeen.x2 s) (WtS b s).length, ((WtS b s).length : Int)) := by
        refine rtot_run hg (by omega) _ (fun st => ?_)
        unfold calxref03_Next_l1
        rw [guardO_pos (show (0 : Int) ≤ s ∧ s < 3 by omega)]
      rw [if_neg (by simpa using hl), if_neg hl, rweights_eq hc hs, bnd rfl, hrun, bnd rfl, rtotal_eq hg (by rw [WtS_len]; omega), bnd rfl, totP_WtS hc hs, WtS_tot hc hs, ← hlf, Int.mul_comm (lf : Int), ← Int.natCast_mul, w64_id (by omega) (by omega), Int.toNat_natCast]
      have := ref_ratio_eq (a := (momI b s - sel3 b.fSeen.x0 b.fSeen.x1 b.fSeen.x2 s * (totN b : Int)).toNat) (b := totN b * lf) h7 (by omega) (by omega)
      rw [Int.toNat_of_nonneg (show 0 ≤ momI b s - sel3 b.fSeen.x0 b.fSeen.x1 b.fSeen.x2 s * (totN b : Int) by omega)] at this
      dsimp only
      rw [this]; rfl
  · rw [if_neg h, if_pos (by simpa using h)]
theorem SampleBelief_true (b : TBatch) (s : Int) (p : TSpan) (_ : TBatch_rg b) (_ : Rg_i64 s) (hp : TSpan_rg p) : calxlaw03_SampleBelief b s p = some true := by
  obtain ⟨lo, hi⟩ := p
  have hh : -9223372036854775808 ≤ hi := hp.2.1
  have hl : (if SortS b s = 0 then WtS b s else []).length ≤ 1000000000 := by
    split
    · rename_i h
      have := Check_bd (Sort_0.1 h).1
      rw [WtS_len]; omega
    · simp
  unfold calxlaw03_SampleBelief
  simp only [head_true, Option.bind_some, Weights_spec, rWeights_spec, Bel_eq b s lo hi hh, rBel_eq, Mean_eq, rMean_eq, Next_eq, rNext_eq, SameInts_refl hl]
  simp
end Go.Proofs.Ytepfgdfahinpkaa
