/- Plain laws of sample: a further sample; what SampleMore's and SampleOrder's plain functions say is true. No program in sight. -/
import Derived.Test.YtepfgdfahinpkaaN8
namespace Go.Proofs.Ytepfgdfahinpkaa

def zB : TBatch := ⟨0, ⟨0, 0, 0⟩, ⟨⟨0, 0⟩, ⟨0, 0⟩, ⟨0, 0⟩⟩⟩
def addK (a b : TKinds) : TKinds := ⟨a.x0 + b.x0, a.x1 + b.x1, a.x2 + b.x2⟩
def cap51 (k : TKinds) : Int := min k.x0 51 + min k.x1 51 + min k.x2 51
def withK (b : TBatch) (k : TKinds) : TBatch := ⟨b.fBarrows, addK b.fSeen k, b.fKnown⟩
/-- What More says. -/
def MoreS (b : TBatch) (k : TKinds) : TBatch × Int :=
  if CheckS b ≠ 0 then (zB, CheckS b) else if ¬ (0 ≤ k.x0 ∧ 0 ≤ k.x1 ∧ 0 ≤ k.x2) then (zB, 1) else if b.fBarrows - cap51 b.fSeen < cap51 k then (zB, 3)
  else if CheckS (withK b k) ≠ 0 then (zB, CheckS (withK b k)) else (withK b k, 0)
theorem More_l1_run (k : TKinds) (a b c : Int) (h : (0 ≤ k.x0 ∧ k.x0 ≤ 51) ∧ (0 ≤ k.x1 ∧ k.x1 ≤ 51) ∧ (0 ≤ k.x2 ∧ k.x2 ≤ 51)) (h' : (0 ≤ a ∧ a ≤ 51) ∧ (0 ≤ b ∧ b ≤ 51) ∧ (0 ≤ c ∧ c ≤ 51)) :
    loopO (sample_More_l1 k) (0, a, b, c) = some (3, a + k.x0, b + k.x1, c + k.x2) := by
  have e0 : sample_More_l1 k (0, a, b, c) = some (.inl (1, a + k.x0, b, c)) := by
    unfold sample_More_l1; dsimp only
    rw [ite_t (by omega), guardO_pos (by omega), guardO_pos (by omega), guardO_pos (by omega)]
    show some (Sum.inl (w64 (0 + 1), w64 (a + k.x0), b, c)) = _
    rw [w64_id (x := a + k.x0) (by omega) (by omega)]
    rfl
  have e1 : sample_More_l1 k (1, a + k.x0, b, c) = some (.inl (2, a + k.x0, b + k.x1, c)) := by
    unfold sample_More_l1; dsimp only
    rw [ite_t (by omega), guardO_pos (by omega), guardO_pos (by omega), guardO_pos (by omega)]
    show some (Sum.inl (w64 (1 + 1), a + k.x0, w64 (b + k.x1), c)) = _
    rw [w64_id (x := b + k.x1) (by omega) (by omega)]
    rfl
  have e2 : sample_More_l1 k (2, a + k.x0, b + k.x1, c) = some (.inl (3, a + k.x0, b + k.x1, c + k.x2)) := by
    unfold sample_More_l1; dsimp only
    rw [ite_t (by omega), guardO_pos (by omega), guardO_pos (by omega), guardO_pos (by omega)]
    show some (Sum.inl (w64 (2 + 1), a + k.x0, b + k.x1, w64 (c + k.x2))) = _
    rw [w64_id (x := c + k.x2) (by omega) (by omega)]
    rfl
  have e3 : sample_More_l1 k (3, a + k.x0, b + k.x1, c + k.x2) = some (.inr (3, a + k.x0, b + k.x1, c + k.x2)) := by
    unfold sample_More_l1; dsimp only
    rw [ite_f (by omega)]
  rw [loopO_next e0, loopO_next e1, loopO_next e2, loopO_stop e3]
theorem Check_bd {b : TBatch} (h : CheckS b = 0) : (1 ≤ b.fBarrows ∧ b.fBarrows ≤ 50) ∧ (0 ≤ b.fSeen.x0 ∧ 0 ≤ b.fSeen.x1 ∧ 0 ≤ b.fSeen.x2) ∧ b.fSeen.x0 + b.fSeen.x1 + b.fSeen.x2 ≤ b.fBarrows := by
  have := (Check_0.1 h).1
  unfold OkSeen at this
  omega
theorem More_spec (b : TBatch) (k : TKinds) : sample_More b k = some (MoreS b k) := by
  unfold sample_More MoreS
  rw [sample_Check_spec, bnd rfl]
  by_cases h : CheckS b = 0
  · rw [if_neg (by simp [h]), if_neg (by simp [h]), isSample_eq, bnd rfl]
    have hb := Check_bd h
    by_cases hk : 0 ≤ k.x0 ∧ 0 ≤ k.x1 ∧ 0 ≤ k.x2
    · have c1 : cap51 b.fSeen = b.fSeen.x0 + b.fSeen.x1 + b.fSeen.x2 := by unfold cap51; omega
      rw [if_neg (by simp [hk]), if_neg (by simp [hk]), size_nn hk, bnd rfl, size_nn hb.2.1, bnd rfl]
      have e1 : min k.x0 51 + min k.x1 51 + min k.x2 51 = cap51 k := rfl
      have e2 : min b.fSeen.x0 51 + min b.fSeen.x1 51 + min b.fSeen.x2 51 = cap51 b.fSeen := rfl
      rw [e1, e2, w64_id (by omega) (by omega)]
      by_cases hs : b.fBarrows - cap51 b.fSeen < cap51 k
      · rw [ite_t hs, if_pos hs]; rfl
      · rw [ite_f hs, if_neg hs]
        have hk2 : k.x0 ≤ 51 ∧ k.x1 ≤ 51 ∧ k.x2 ≤ 51 := by unfold cap51 at hs; omega
        rw [More_l1_run k _ _ _ (by omega) (by omega), bnd rfl]
        have e3 : (TBatch.mk b.fBarrows (TKinds.mk (b.fSeen.x0 + k.x0) (b.fSeen.x1 + k.x1) (b.fSeen.x2 + k.x2)) b.fKnown) = withK b k := rfl
        dsimp only
        rw [e3, sample_Check_spec, bnd rfl]
        by_cases hc : CheckS (withK b k) = 0
        · rw [if_neg (by simp [hc]), if_neg (by simp [hc])]
        · rw [if_pos (by simpa using hc), if_pos hc]; rfl
    · rw [if_pos (by simp; omega), if_pos hk]; rfl
  · rw [if_pos (by simpa using h), if_pos h]; rfl
theorem ref_More_spec (b : TBatch) (k : TKinds) : calxref03_More b k = some ⟨(MoreS b k).1, (MoreS b k).2⟩ := by
  unfold calxref03_More MoreS
  rw [ref_Check_spec, bnd rfl]
  by_cases h : CheckS b = 0
  · rw [if_pos (show (CheckS b == 0) = true by simp [h]), if_neg (show ¬ (CheckS b ≠ 0) by simp [h]), sorted_eq]
    have hb := Check_bd h
    by_cases hk : 0 ≤ k.x0 ∧ 0 ≤ k.x1 ∧ 0 ≤ k.x2
    · have c1 : cap51 b.fSeen = b.fSeen.x0 + b.fSeen.x1 + b.fSeen.x2 := by unfold cap51; omega
      have e1 : min k.x0 51 + min k.x1 51 + min k.x2 51 = cap51 k := rfl
      have e2 : min b.fSeen.x0 51 + min b.fSeen.x1 51 + min b.fSeen.x2 51 = cap51 b.fSeen := rfl
      have hnn : ¬ ¬ (0 ≤ k.x0 ∧ 0 ≤ k.x1 ∧ 0 ≤ k.x2) := fun x => x hk
      rw [decide_eq_true hk, if_neg hnn]
      simp only [Option.bind_some, Bool.not_true, Bool.false_eq_true, if_false]
      rw [if_pos (show (CheckS b == 0) = true by simp [h]), all_nn hk, all_nn hb.2.1]
      simp only [Option.bind_some]
      rw [e1, e2, w64_id (x := b.fBarrows - cap51 b.fSeen) (by omega) (by omega)]
      by_cases hs : b.fBarrows - cap51 b.fSeen < cap51 k
      · rw [ite_t hs, if_pos hs, if_pos (by decide)]; rfl
      · rw [ite_f hs, if_neg hs]
        have hk2 : k.x0 ≤ 51 ∧ k.x1 ≤ 51 ∧ k.x2 ≤ 51 := by unfold cap51 at hs; omega
        have e4 : calxref03_More_l4 k = sample_More_l1 k := rfl
        rw [if_neg (by simp [h]), e4, More_l1_run k _ _ _ (by omega) (by omega), bnd rfl]
        have e3 : (TBatch.mk b.fBarrows (TKinds.mk (b.fSeen.x0 + k.x0) (b.fSeen.x1 + k.x1) (b.fSeen.x2 + k.x2)) b.fKnown) = withK b k := rfl
        dsimp only
        rw [e3, ref_Check_spec, bnd rfl]
        by_cases hc : CheckS (withK b k) = 0
        · rw [if_neg (by simp [hc]), if_neg (by simp [hc])]
        · rw [if_pos (by simpa using hc), if_pos hc]; rfl
    · rw [decide_eq_false hk, if_pos hk]
      simp [zB]
  · rw [if_neg (by simpa using h), if_pos h, bnd rfl, if_neg (by simp), if_neg (by simpa using h), bnd rfl, if_neg (by simp), if_pos (by simpa using h)]
    rfl
theorem SampleMore_true (b : TBatch) (k : TKinds) (_ : TBatch_rg b) (_ : TKinds_rg k) : calxlaw03_SampleMore b k = some true := by
  unfold calxlaw03_SampleMore
  simp only [head_true, Option.bind_some, More_spec, ref_More_spec]
  simp

/-! ### A batch of which all was seen -/
theorem wl_nodup (b : TBatch) : (wl b).Nodup := by
  unfold wl wX
  rw [List.Nodup, List.pairwise_flatMap]
  refine ⟨fun x hx => ?_, ?_⟩
  · unfold wY
    refine List.Pairwise.filter _ ?_
    rw [List.pairwise_map]
    refine List.Pairwise.imp ?_ (List.nodup_range (n := b.fBarrows.toNat + 1 - x))
    intro y z hyz he
    apply hyz
    have : (mkK b x y).x1 = (mkK b x z).x1 := by rw [he]
    unfold mkK at this
    dsimp only at this
    omega
  · refine List.Pairwise.imp ?_ (List.nodup_range (n := b.fBarrows.toNat + 1))
    intro x x' hne k hk k' hk' he
    apply hne
    unfold wY at hk hk'
    obtain ⟨y, _, rfl⟩ := List.mem_map.1 (List.mem_filter.1 hk).1
    obtain ⟨y', _, rfl⟩ := List.mem_map.1 (List.mem_filter.1 hk').1
    have : (mkK b x y).x0 = (mkK b x' y').x0 := by rw [he]
    unfold mkK at this
    dsimp only at this
    omega
theorem wl_one {b : TBatch} (h : CheckS b = 0) (hs : b.fSeen.x0 + b.fSeen.x1 + b.fSeen.x2 = b.fBarrows) : wl b = [b.fSeen] := by
  have hb := Check_bd h
  have hall : ∀ k ∈ wl b, k = b.fSeen := fun k hk => by
    have h1 := mem_wl hk (by omega)
    have h2 := h1.1
    unfold OkK at h2
    cases k with
    | mk a c d =>
      cases hsn : b.fSeen with
      | mk a' c' d' =>
        rw [hsn] at h2 hs
        dsimp only at *
        congr 1 <;> omega
  have hnd := wl_nodup b
  have hne := (Check_0.1 h).2.2
  cases hw : wl b with
  | nil => exact absurd hw hne
  | cons k l =>
    rw [hw] at hall hnd
    have e1 := hall k (List.mem_cons_self ..)
    cases l with
    | nil => rw [e1]
    | cons k' l =>
      have e2 := hall k' (by simp)
      have := (List.nodup_cons.1 hnd).1
      exact absurd (by rw [e1, e2]; simp) this
theorem withK_withK (b : TBatch) (k k' : TKinds) : withK (withK b k) k' = withK b (addK k k') := by
  unfold withK addK
  dsimp only
  congr 2 <;> omega
theorem addK_comm (k k' : TKinds) : addK k k' = addK k' k := by
  unfold addK
  congr 1 <;> omega
/-- What is in order by the first sample. -/
theorem More_0 {b : TBatch} {k : TKinds} (h : (MoreS b k).2 = 0) : CheckS b = 0 ∧ (0 ≤ k.x0 ∧ 0 ≤ k.x1 ∧ 0 ≤ k.x2) ∧ cap51 k ≤ b.fBarrows - cap51 b.fSeen ∧ CheckS (withK b k) = 0 ∧ MoreS b k = (withK b k, 0) := by
  unfold MoreS at h ⊢
  by_cases h1 : CheckS b = 0
  · rw [if_neg (by simp [h1])] at h ⊢
    by_cases h2 : 0 ≤ k.x0 ∧ 0 ≤ k.x1 ∧ 0 ≤ k.x2
    · rw [if_neg (by simp [h2])] at h ⊢
      by_cases h3 : b.fBarrows - cap51 b.fSeen < cap51 k
      · rw [if_pos h3] at h; cases h
      · rw [if_neg h3] at h ⊢
        by_cases h4 : CheckS (withK b k) = 0
        · rw [if_neg (by simp [h4])]
          exact ⟨h1, h2, by omega, h4, rfl⟩
        · rw [if_pos h4] at h
          exact absurd h h4
    · rw [if_pos h2] at h; cases h
  · rw [if_pos h1] at h
    exact absurd h h1
theorem More_then {b : TBatch} {k k' : TKinds} (h : (MoreS b k).2 = 0) (h' : 0 ≤ k'.x0 ∧ 0 ≤ k'.x1 ∧ 0 ≤ k'.x2) (h3 : cap51 k' ≤ b.fBarrows - cap51 b.fSeen) : MoreS (withK b k) k' = MoreS b (addK k k') := by
  obtain ⟨a1, a2, a3, a4, a5⟩ := More_0 h
  have b1 := Check_bd a1
  have b4 := Check_bd a4
  unfold MoreS
  have n1 : ¬ (CheckS (withK b k) ≠ 0) := fun x => x a4
  have n2 : ¬ (CheckS b ≠ 0) := fun x => x a1
  have n3 : ¬ ¬ (0 ≤ k'.x0 ∧ 0 ≤ k'.x1 ∧ 0 ≤ k'.x2) := fun x => x h'
  rw [if_neg n1, if_neg n2, if_neg n3, if_neg (show ¬ ¬ (0 ≤ (addK k k').x0 ∧ 0 ≤ (addK k k').x1 ∧ 0 ≤ (addK k k').x2) by unfold addK; dsimp only; omega), withK_withK]
  have e : ((withK b k).fBarrows - cap51 (withK b k).fSeen < cap51 k') ↔ (b.fBarrows - cap51 b.fSeen < cap51 (addK k k')) := by
    unfold withK addK at *
    unfold cap51 at *
    dsimp only at *
    omega
  by_cases hc : b.fBarrows - cap51 b.fSeen < cap51 (addK k k')
  · rw [if_pos (e.2 hc), if_pos hc]
  · rw [if_neg (fun x => hc (e.1 x)), if_neg hc]
theorem SampleOrder_true (b : TBatch) (one two : TKinds) (s : Int) (_ : TBatch_rg b) (_ : TKinds_rg one) (_ : TKinds_rg two) (_ : Rg_i64 s) : calxlaw03_SampleOrder b one two s = some true := by
  unfold calxlaw03_SampleOrder
  simp only [head_true, Option.bind_some, More_spec]
  by_cases h1 : (MoreS b one).2 = 0
  · by_cases h2 : (MoreS b two).2 = 0
    · rw [if_neg (by simp [h1, h2])]
      obtain ⟨a1, a2, a3, a4, a5⟩ := More_0 h1
      obtain ⟨c1, c2, c3, c4, c5⟩ := More_0 h2
      have b1 := Check_bd a1
      have hbd : (one.x0 ≤ 51 ∧ one.x1 ≤ 51 ∧ one.x2 ≤ 51) ∧ (two.x0 ≤ 51 ∧ two.x1 ≤ 51 ∧ two.x2 ≤ 51) := by unfold cap51 at *; omega
      rw [a5, c5]
      dsimp only
      rw [w64_id (x := one.x0 + two.x0) (by omega) (by omega), w64_id (x := one.x1 + two.x1) (by omega) (by omega), w64_id (x := one.x2 + two.x2) (by omega) (by omega)]
      have e0 : (TKinds.mk (one.x0 + two.x0) (one.x1 + two.x1) (one.x2 + two.x2)) = addK one two := rfl
      rw [e0, More_then h1 c2 c3, More_then h2 a2 a3, addK_comm two one]
      rw [if_neg (by simp)]
      by_cases h3 : (MoreS b (addK one two)).2 = 0
      · rw [if_neg (by simp [h3])]
        obtain ⟨d1, d2, d3, d4, d5⟩ := More_0 h3
        rw [d5]
        simp only [Weights_spec, Wholes_spec, Option.bind_some]
        rw [if_pos d4, d4]
        have hl : (if SortS (withK b (addK one two)) s = 0 then WtS (withK b (addK one two)) s else []).length ≤ 1000000000 := by
          have := Check_bd d4
          split
          · rw [WtS_len]; omega
          · simp
        rw [SameInts_refl hl]
        have hb' := Check_bd d4
        simp only [Option.bind_some]
        rw [if_neg (by simp), w64_id (x := (withK b (addK one two)).fSeen.x0 + _) (by omega) (by omega), w64_id (by omega) (by omega)]
        by_cases hs : (withK b (addK one two)).fSeen.x0 + (withK b (addK one two)).fSeen.x1 + (withK b (addK one two)).fSeen.x2 < (withK b (addK one two)).fBarrows
        · rw [ite_t hs]; rfl
        · rw [ite_f hs, wl_one d4 (by omega)]
          simp [guardO, rdL]
      · rw [if_pos (by simpa using h3)]
    · rw [if_pos (by simp [h2])]
  · rw [if_pos (by simp [h1])]
end Go.Proofs.Ytepfgdfahinpkaa
