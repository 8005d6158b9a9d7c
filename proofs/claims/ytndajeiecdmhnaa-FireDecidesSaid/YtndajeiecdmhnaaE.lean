/- The plain functions with loops of so many rounds at most: they compute. No program in sight. -/
import Derived.Test.YtndajeiecdmhnaaP
set_option linter.unusedVariables false
set_option maxRecDepth 100000
set_option maxHeartbeats 4000000
namespace Go.Proofs.Ytndajeiecdmhnaa

/-! calx/fire.within -/
def fire_within_c (fuel : Nat) (p0_n : Int) (p1_lo : Int) (p2_hi : Int) : Option Bool :=
  some ((decide (p1_lo ≤ p0_n)) && (decide (p0_n ≤ p2_hi)))
theorem fire_within_le (fuel : Nat) (p0_n : Int) (p1_lo : Int) (p2_hi : Int) : LeO (fire_within_c fuel p0_n p1_lo p2_hi) (fire_within p0_n p1_lo p2_hi) := by
  unfold fire_within_c fire_within
  repeat' first
    | with_reducible apply LeO.bind
    | with_reducible apply LeO.guard
    | with_reducible apply LeO.ite
    | with_reducible apply LeO.loop
    | with_reducible apply LeO.fold
    | with_reducible exact LeO.refl _
    | (intro (u : Sum _ _); cases u <;> dsimp only)
    | intro _

/-! calx/fire.right -/
def fire_right_c (fuel : Nat) (p0_s : TSpot) : Option Bool :=
  ((fire_within_c fuel p0_s.fFoot 0 60).bind fun y2 => ((if y2 = true then ((fire_within_c fuel p0_s.fHour 0 16384).bind fun y7 => some (y7)) else (some (false))).bind fun b5 => some b5))
theorem fire_right_le (fuel : Nat) (p0_s : TSpot) : LeO (fire_right_c fuel p0_s) (fire_right p0_s) := by
  unfold fire_right_c fire_right
  repeat' first
    | with_reducible apply LeO.bind
    | with_reducible apply fire_within_le
    | with_reducible apply LeO.guard
    | with_reducible apply LeO.ite
    | with_reducible apply LeO.loop
    | with_reducible apply LeO.fold
    | with_reducible exact LeO.refl _
    | (intro (u : Sum _ _); cases u <;> dsimp only)
    | intro _

/-! calx/fire.heat -/
def fire_heat_c (fuel : Nat) (p0_n : Int) : Option Bool :=
  ((fire_within_c fuel p0_n 0 1500).bind fun y1 => some y1)
theorem fire_heat_le (fuel : Nat) (p0_n : Int) : LeO (fire_heat_c fuel p0_n) (fire_heat p0_n) := by
  unfold fire_heat_c fire_heat
  repeat' first
    | with_reducible apply LeO.bind
    | with_reducible apply fire_within_le
    | with_reducible apply LeO.guard
    | with_reducible apply LeO.ite
    | with_reducible apply LeO.loop
    | with_reducible apply LeO.fold
    | with_reducible exact LeO.refl _
    | (intro (u : Sum _ _); cases u <;> dsimp only)
    | intro _

/-! calx/fire.rightLook -/
def fire_rightLook_c (fuel : Nat) (p0_x : TLook) : Option Bool :=
  ((fire_within_c fuel p0_x.fID 1 1099511627776).bind fun y2 => ((if y2 = true then ((fire_right_c fuel p0_x.fAt).bind fun y18 => some (y18)) else (some (false))).bind fun b5 => ((if b5 = true then ((fire_heat_c fuel p0_x.fHeat.fLo).bind fun y16 => some (y16)) else (some (false))).bind fun b8 => ((if b8 = true then ((fire_heat_c fuel p0_x.fHeat.fHi).bind fun y14 => some (y14)) else (some (false))).bind fun b11 => some (b11 && (decide (p0_x.fHeat.fLo ≤ p0_x.fHeat.fHi)))))))
theorem fire_rightLook_le (fuel : Nat) (p0_x : TLook) : LeO (fire_rightLook_c fuel p0_x) (fire_rightLook p0_x) := by
  unfold fire_rightLook_c fire_rightLook
  repeat' first
    | with_reducible apply LeO.bind
    | with_reducible apply fire_heat_le
    | with_reducible apply fire_right_le
    | with_reducible apply fire_within_le
    | with_reducible apply LeO.guard
    | with_reducible apply LeO.ite
    | with_reducible apply LeO.loop
    | with_reducible apply LeO.fold
    | with_reducible exact LeO.refl _
    | (intro (u : Sum _ _); cases u <;> dsimp only)
    | intro _

/-! slices.IndexFunc[[]calx/api.Look,calx/api.Look] -/
def slices_IndexFunc_calx_api_Look_calx_api_Look_l1_c (fuel : Nat) (p0_s : (List TLook)) (p1_f : TLook → Option Bool) (s2 : (Int × Int)) : Option ((Int × Int) ⊕ ((Int × Int) ⊕ (Int × Int))) :=
  (if decide (s2.2 < ((p0_s.length : Nat) : Int)) = true then guardO ((0 : Int) ≤ s2.2 ∧ s2.2 < ((p0_s.length : Nat) : Int)) (((p1_f (TLook.mk ((rdL p0_s s2.2).fID) (TSpot.mk ((rdL p0_s s2.2).fAt.fFoot) ((rdL p0_s s2.2).fAt.fHour)) (TSpan.mk ((rdL p0_s s2.2).fHeat.fLo) ((rdL p0_s s2.2).fHeat.fHi)))).bind fun y6 => (if y6 = true then some (.inr (.inl (s2.2, s2.2))) else some (.inl (s2.1, w64 (s2.2 + 1)))))) else some (.inr (.inr (s2.1, s2.2))))
theorem slices_IndexFunc_calx_api_Look_calx_api_Look_l1_le (fuel : Nat) (p0_s : (List TLook)) (p1_f p1_f' : TLook → Option Bool) (hp1_f : ∀ x, LeO (p1_f x) (p1_f' x)) (s2 : (Int × Int)) : LeO (slices_IndexFunc_calx_api_Look_calx_api_Look_l1_c fuel p0_s p1_f s2) (slices_IndexFunc_calx_api_Look_calx_api_Look_l1 p0_s p1_f' s2) := by
  unfold slices_IndexFunc_calx_api_Look_calx_api_Look_l1_c slices_IndexFunc_calx_api_Look_calx_api_Look_l1
  repeat' first
    | with_reducible apply LeO.bind
    | with_reducible apply hp1_f
    | with_reducible apply LeO.guard
    | with_reducible apply LeO.ite
    | with_reducible apply LeO.loop
    | with_reducible apply LeO.fold
    | with_reducible exact LeO.refl _
    | (intro (u : Sum _ _); cases u <;> dsimp only)
    | intro _
def slices_IndexFunc_calx_api_Look_calx_api_Look_c (fuel : Nat) (p0_s : (List TLook)) (p1_f : TLook → Option Bool) : Option Int :=
  ((loopF fuel (slices_IndexFunc_calx_api_Look_calx_api_Look_l1_c fuel p0_s p1_f) (0, 0)).bind fun u3 => match u3 with | (.inl u10) => some u10.1 | (.inr u11) => some (-1))
theorem slices_IndexFunc_calx_api_Look_calx_api_Look_le (fuel : Nat) (p0_s : (List TLook)) (p1_f p1_f' : TLook → Option Bool) (hp1_f : ∀ x, LeO (p1_f x) (p1_f' x)) : LeO (slices_IndexFunc_calx_api_Look_calx_api_Look_c fuel p0_s p1_f) (slices_IndexFunc_calx_api_Look_calx_api_Look p0_s p1_f') := by
  unfold slices_IndexFunc_calx_api_Look_calx_api_Look_c slices_IndexFunc_calx_api_Look_calx_api_Look
  repeat' first
    | with_reducible apply LeO.bind
    | with_reducible apply hp1_f
    | with_reducible apply slices_IndexFunc_calx_api_Look_calx_api_Look_l1_le
    | with_reducible apply LeO.guard
    | with_reducible apply LeO.ite
    | with_reducible apply LeO.loop
    | with_reducible apply LeO.fold
    | with_reducible exact LeO.refl _
    | (intro (u : Sum _ _); cases u <;> dsimp only)
    | intro _

/-! calx/fire.find$1 -/
def fire_find_1_c (fuel : Nat) (p0_x : TLook) (cap0 : Int) : Option Bool :=
  some (p0_x.fID == cap0)
theorem fire_find_1_le (fuel : Nat) (p0_x : TLook) (cap0 : Int) : LeO (fire_find_1_c fuel p0_x cap0) (fire_find_1 p0_x cap0) := by
  unfold fire_find_1_c fire_find_1
  repeat' first
    | with_reducible apply LeO.bind
    | with_reducible apply LeO.guard
    | with_reducible apply LeO.ite
    | with_reducible apply LeO.loop
    | with_reducible apply LeO.fold
    | with_reducible exact LeO.refl _
    | (intro (u : Sum _ _); cases u <;> dsimp only)
    | intro _

/-! calx/fire.find -/
def fire_find_c (fuel : Nat) (p0_l : (List TLook)) (p1_id : Int) : Option Int :=
  ((slices_IndexFunc_calx_api_Look_calx_api_Look_c fuel p0_l (fun x2 => fire_find_1_c fuel x2 p1_id)).bind fun y3 => some y3)
theorem fire_find_le (fuel : Nat) (p0_l : (List TLook)) (p1_id : Int) : LeO (fire_find_c fuel p0_l p1_id) (fire_find p0_l p1_id) := by
  unfold fire_find_c fire_find
  repeat' first
    | with_reducible apply LeO.bind
    | with_reducible apply fire_find_1_le
    | with_reducible apply slices_IndexFunc_calx_api_Look_calx_api_Look_le
    | with_reducible apply LeO.guard
    | with_reducible apply LeO.ite
    | with_reducible apply LeO.loop
    | with_reducible apply LeO.fold
    | with_reducible exact LeO.refl _
    | (intro (u : Sum _ _); cases u <;> dsimp only)
    | intro _

/-! calx/fire.Check -/
def fire_Check_l1_c (fuel : Nat) (p0_f : TFire) (s3 : (Int × Int)) : Option ((Int × Int) ⊕ ((Int × Int) ⊕ (Int × Int))) :=
  (if decide (s3.2 < 4) = true then guardO ((0 : Int) ≤ s3.2 ∧ s3.2 < 4) (((fire_within_c fuel (sel4 p0_f.fRise p0_f.fFall p0_f.fUp p0_f.fDown s3.2) 0 200).bind fun y7 => (if (!y7) = true then some (.inr (.inl (1, s3.2))) else some (.inl (s3.1, w64 (s3.2 + 1)))))) else some (.inr (.inr (s3.1, s3.2))))
theorem fire_Check_l1_le (fuel : Nat) (p0_f : TFire) (s3 : (Int × Int)) : LeO (fire_Check_l1_c fuel p0_f s3) (fire_Check_l1 p0_f s3) := by
  unfold fire_Check_l1_c fire_Check_l1
  repeat' first
    | with_reducible apply LeO.bind
    | with_reducible apply fire_within_le
    | with_reducible apply LeO.guard
    | with_reducible apply LeO.ite
    | with_reducible apply LeO.loop
    | with_reducible apply LeO.fold
    | with_reducible exact LeO.refl _
    | (intro (u : Sum _ _); cases u <;> dsimp only)
    | intro _
def fire_Check_l2_c (fuel : Nat) (p0_f : TFire) (s15 : (Int × Int)) : Option ((Int × Int) ⊕ ((Int × Int) ⊕ (Int × Int))) :=
  (if decide (s15.2 < ((p0_f.fLooks.length : Nat) : Int)) = true then guardO ((0 : Int) ≤ s15.2 ∧ s15.2 < ((p0_f.fLooks.length : Nat) : Int)) (((fire_rightLook_c fuel (TLook.mk ((rdL p0_f.fLooks s15.2).fID) (TSpot.mk ((rdL p0_f.fLooks s15.2).fAt.fFoot) ((rdL p0_f.fLooks s15.2).fAt.fHour)) (TSpan.mk ((rdL p0_f.fLooks s15.2).fHeat.fLo) ((rdL p0_f.fLooks s15.2).fHeat.fHi)))).bind fun y20 => (if (!y20) = true then some (.inr (.inl (1, s15.2))) else ((fire_find_c fuel p0_f.fLooks ((rdL p0_f.fLooks s15.2).fID)).bind fun y23 => (if decide (y23 < s15.2) = true then some (.inr (.inl (6, s15.2))) else some (.inl (s15.1, w64 (s15.2 + 1)))))))) else some (.inr (.inr (s15.1, s15.2))))
theorem fire_Check_l2_le (fuel : Nat) (p0_f : TFire) (s15 : (Int × Int)) : LeO (fire_Check_l2_c fuel p0_f s15) (fire_Check_l2 p0_f s15) := by
  unfold fire_Check_l2_c fire_Check_l2
  repeat' first
    | with_reducible apply LeO.bind
    | with_reducible apply fire_find_le
    | with_reducible apply fire_rightLook_le
    | with_reducible apply LeO.guard
    | with_reducible apply LeO.ite
    | with_reducible apply LeO.loop
    | with_reducible apply LeO.fold
    | with_reducible exact LeO.refl _
    | (intro (u : Sum _ _); cases u <;> dsimp only)
    | intro _
def fire_Check_c (fuel : Nat) (p0_f : TFire) : Option Int :=
  ((loopF fuel (fire_Check_l1_c fuel p0_f) (0, 0)).bind fun u4 => match u4 with | (.inl u11) => some u11.1 | (.inr u12) => (if decide (24 < ((p0_f.fLooks.length : Nat) : Int)) = true then some 2 else ((loopF fuel (fire_Check_l2_c fuel p0_f) (u12.1, 0)).bind fun u16 => match u16 with | (.inl u27) => some u27.1 | (.inr u28) => some 0)))
theorem fire_Check_le (fuel : Nat) (p0_f : TFire) : LeO (fire_Check_c fuel p0_f) (fire_Check p0_f) := by
  unfold fire_Check_c fire_Check
  repeat' first
    | with_reducible apply LeO.bind
    | with_reducible apply fire_Check_l1_le
    | with_reducible apply fire_Check_l2_le
    | with_reducible apply LeO.guard
    | with_reducible apply LeO.ite
    | with_reducible apply LeO.loop
    | with_reducible apply LeO.fold
    | with_reducible exact LeO.refl _
    | (intro (u : Sum _ _); cases u <;> dsimp only)
    | intro _

/-! calx/fire.far -/
def fire_far_l1_c (fuel : Nat) (p0_f : TFire) (p1_p : TSpot) (p2_q : TSpot) (s6 : (Int × Int)) : Option ((Int × Int) ⊕ (Int × Int)) :=
  (if decide (s6.2 < 4) = true then guardO ((0 : Int) ≤ s6.2 ∧ s6.2 < 4) (guardO ((0 : Int) ≤ s6.2 ∧ s6.2 < 4) (some (.inl (w64 (s6.1 + (w64 ((sel4 p0_f.fRise p0_f.fFall p0_f.fUp p0_f.fDown s6.2) * (max 0 (sel4 (w64 (p2_q.fHour - p1_p.fHour)) (w64 (p1_p.fHour - p2_q.fHour)) (w64 (p2_q.fFoot - p1_p.fFoot)) (w64 (p1_p.fFoot - p2_q.fFoot)) s6.2))))), w64 (s6.2 + 1))))) else some (.inr (s6.1, s6.2)))
theorem fire_far_l1_le (fuel : Nat) (p0_f : TFire) (p1_p : TSpot) (p2_q : TSpot) (s6 : (Int × Int)) : LeO (fire_far_l1_c fuel p0_f p1_p p2_q s6) (fire_far_l1 p0_f p1_p p2_q s6) := by
  unfold fire_far_l1_c fire_far_l1
  repeat' first
    | with_reducible apply LeO.bind
    | with_reducible apply LeO.guard
    | with_reducible apply LeO.ite
    | with_reducible apply LeO.loop
    | with_reducible apply LeO.fold
    | with_reducible exact LeO.refl _
    | (intro (u : Sum _ _); cases u <;> dsimp only)
    | intro _
def fire_far_c (fuel : Nat) (p0_f : TFire) (p1_p : TSpot) (p2_q : TSpot) : Option Int :=
  ((loopF fuel (fire_far_l1_c fuel p0_f p1_p p2_q) (0, 0)).bind fun u7 => some u7.1)
theorem fire_far_le (fuel : Nat) (p0_f : TFire) (p1_p : TSpot) (p2_q : TSpot) : LeO (fire_far_c fuel p0_f p1_p p2_q) (fire_far p0_f p1_p p2_q) := by
  unfold fire_far_c fire_far
  repeat' first
    | with_reducible apply LeO.bind
    | with_reducible apply fire_far_l1_le
    | with_reducible apply LeO.guard
    | with_reducible apply LeO.ite
    | with_reducible apply LeO.loop
    | with_reducible apply LeO.fold
    | with_reducible exact LeO.refl _
    | (intro (u : Sum _ _); cases u <;> dsimp only)
    | intro _

/-! calx/fire.against -/
def fire_against_c (fuel : Nat) (p0_f : TFire) (p1_a : TLook) (p2_b : TLook) : Option Bool :=
  ((fire_far_c fuel p0_f p1_a.fAt p2_b.fAt).bind fun y4 => some (decide (w64 (p1_a.fHeat.fHi + y4) < p2_b.fHeat.fLo)))
theorem fire_against_le (fuel : Nat) (p0_f : TFire) (p1_a : TLook) (p2_b : TLook) : LeO (fire_against_c fuel p0_f p1_a p2_b) (fire_against p0_f p1_a p2_b) := by
  unfold fire_against_c fire_against
  repeat' first
    | with_reducible apply LeO.bind
    | with_reducible apply fire_far_le
    | with_reducible apply LeO.guard
    | with_reducible apply LeO.ite
    | with_reducible apply LeO.loop
    | with_reducible apply LeO.fold
    | with_reducible exact LeO.refl _
    | (intro (u : Sum _ _); cases u <;> dsimp only)
    | intro _

/-! slices.Values[[]calx/api.Look,calx/api.Look] -/
def slices_Values_calx_api_Look_calx_api_Look_c (fuel : Nat) (p0_s : (List TLook)) : Option Unit :=
  some ()
theorem slices_Values_calx_api_Look_calx_api_Look_le (fuel : Nat) (p0_s : (List TLook)) : LeO (slices_Values_calx_api_Look_calx_api_Look_c fuel p0_s) (slices_Values_calx_api_Look_calx_api_Look p0_s) := by
  unfold slices_Values_calx_api_Look_calx_api_Look_c slices_Values_calx_api_Look_calx_api_Look
  repeat' first
    | with_reducible apply LeO.bind
    | with_reducible apply LeO.guard
    | with_reducible apply LeO.ite
    | with_reducible apply LeO.loop
    | with_reducible apply LeO.fold
    | with_reducible exact LeO.refl _
    | (intro (u : Sum _ _); cases u <;> dsimp only)
    | intro _

/-! slices.AppendSeq[[]calx/api.Look,calx/api.Look] -/
def slices_AppendSeq_calx_api_Look_calx_api_Look_r1_c (fuel : Nat) (s10 : (List TLook)) (x11 : TLook) : Option ((List TLook) ⊕ Unit) :=
  guardO (s10.length + 1 ≤ 1000000000) (some (.inl (s10 ++ [x11])))
theorem slices_AppendSeq_calx_api_Look_calx_api_Look_r1_le (fuel : Nat) (s10 : (List TLook)) (x11 : TLook) : LeO (slices_AppendSeq_calx_api_Look_calx_api_Look_r1_c fuel s10 x11) (slices_AppendSeq_calx_api_Look_calx_api_Look_r1 s10 x11) := by
  unfold slices_AppendSeq_calx_api_Look_calx_api_Look_r1_c slices_AppendSeq_calx_api_Look_calx_api_Look_r1
  repeat' first
    | with_reducible apply LeO.bind
    | with_reducible apply LeO.guard
    | with_reducible apply LeO.ite
    | with_reducible apply LeO.loop
    | with_reducible apply LeO.fold
    | with_reducible exact LeO.refl _
    | (intro (u : Sum _ _); cases u <;> dsimp only)
    | intro _
def slices_AppendSeq_calx_api_Look_calx_api_Look_c (fuel : Nat) (p1_seq : (List TLook)) : Option (List TLook) :=
  (guardO (seqLook_ok p1_seq) ((foldO (slices_AppendSeq_calx_api_Look_calx_api_Look_r1_c fuel) (seqLook p1_seq) ([] : List TLook)).bind fun u12 => match u12 with | .inl u20 => some u20 | .inr _ => none))
theorem slices_AppendSeq_calx_api_Look_calx_api_Look_le (fuel : Nat) (p1_seq : (List TLook)) : LeO (slices_AppendSeq_calx_api_Look_calx_api_Look_c fuel p1_seq) (slices_AppendSeq_calx_api_Look_calx_api_Look p1_seq) := by
  unfold slices_AppendSeq_calx_api_Look_calx_api_Look_c slices_AppendSeq_calx_api_Look_calx_api_Look
  repeat' first
    | with_reducible apply LeO.bind
    | with_reducible apply slices_AppendSeq_calx_api_Look_calx_api_Look_r1_le
    | with_reducible apply LeO.guard
    | with_reducible apply LeO.ite
    | with_reducible apply LeO.loop
    | with_reducible apply LeO.fold
    | with_reducible exact LeO.refl _
    | (intro (u : Sum _ _); cases u <;> dsimp only)
    | intro _

/-! slices.Collect[calx/api.Look] -/
def slices_Collect_calx_api_Look_c (fuel : Nat) (p0_seq : (List TLook)) : Option (List TLook) :=
  ((slices_AppendSeq_calx_api_Look_calx_api_Look_c fuel p0_seq).bind fun y1 => some y1)
theorem slices_Collect_calx_api_Look_le (fuel : Nat) (p0_seq : (List TLook)) : LeO (slices_Collect_calx_api_Look_c fuel p0_seq) (slices_Collect_calx_api_Look p0_seq) := by
  unfold slices_Collect_calx_api_Look_c slices_Collect_calx_api_Look
  repeat' first
    | with_reducible apply LeO.bind
    | with_reducible apply slices_AppendSeq_calx_api_Look_calx_api_Look_le
    | with_reducible apply LeO.guard
    | with_reducible apply LeO.ite
    | with_reducible apply LeO.loop
    | with_reducible apply LeO.fold
    | with_reducible exact LeO.refl _
    | (intro (u : Sum _ _); cases u <;> dsimp only)
    | intro _

/-! slices.insertionSortCmpFunc[calx/api.Look] -/
def slices_insertionSortCmpFunc_calx_api_Look_l2_c (fuel : Nat) (p0_data : (List TLook)) (p1_a : Int) (p3_cmp : TLook → TLook → Option Int) (s8 : (Int × (List TLook))) : Option ((Int × (List TLook)) ⊕ (Int × (List TLook))) :=
  ((if decide (p1_a < s8.1) = true then (guardO ((0 : Int) ≤ s8.1 ∧ s8.1 < ((p0_data.length : Nat) : Int)) (guardO ((0 : Int) ≤ w64 (s8.1 - 1) ∧ w64 (s8.1 - 1) < ((p0_data.length : Nat) : Int)) (((p3_cmp (TLook.mk ((rdL s8.2 s8.1).fID) (TSpot.mk ((rdL s8.2 s8.1).fAt.fFoot) ((rdL s8.2 s8.1).fAt.fHour)) (TSpan.mk ((rdL s8.2 s8.1).fHeat.fLo) ((rdL s8.2 s8.1).fHeat.fHi))) (TLook.mk ((rdL s8.2 (w64 (s8.1 - 1))).fID) (TSpot.mk ((rdL s8.2 (w64 (s8.1 - 1))).fAt.fFoot) ((rdL s8.2 (w64 (s8.1 - 1))).fAt.fHour)) (TSpan.mk ((rdL s8.2 (w64 (s8.1 - 1))).fHeat.fLo) ((rdL s8.2 (w64 (s8.1 - 1))).fHeat.fHi)))).bind fun y21 => some (decide (y21 < 0)))))) else (some (false))).bind fun b11 => (if b11 = true then guardO ((0 : Int) ≤ w64 (s8.1 - 1) ∧ w64 (s8.1 - 1) < ((p0_data.length : Nat) : Int)) (guardO ((0 : Int) ≤ s8.1 ∧ s8.1 < ((p0_data.length : Nat) : Int)) (guardO ((0 : Int) ≤ s8.1 ∧ s8.1 < ((p0_data.length : Nat) : Int)) (guardO ((0 : Int) ≤ w64 (s8.1 - 1) ∧ w64 (s8.1 - 1) < ((p0_data.length : Nat) : Int)) (some (.inl (w64 (s8.1 - 1), ((s8.2.set (Int.toNat s8.1) (TLook.mk ((rdL s8.2 (w64 (s8.1 - 1))).fID) (TSpot.mk ((rdL s8.2 (w64 (s8.1 - 1))).fAt.fFoot) ((rdL s8.2 (w64 (s8.1 - 1))).fAt.fHour)) (TSpan.mk ((rdL s8.2 (w64 (s8.1 - 1))).fHeat.fLo) ((rdL s8.2 (w64 (s8.1 - 1))).fHeat.fHi)))).set (Int.toNat (w64 (s8.1 - 1))) (TLook.mk ((rdL s8.2 s8.1).fID) (TSpot.mk ((rdL s8.2 s8.1).fAt.fFoot) ((rdL s8.2 s8.1).fAt.fHour)) (TSpan.mk ((rdL s8.2 s8.1).fHeat.fLo) ((rdL s8.2 s8.1).fHeat.fHi)))))))))) else some (.inr (s8.1, s8.2))))
theorem slices_insertionSortCmpFunc_calx_api_Look_l2_le (fuel : Nat) (p0_data : (List TLook)) (p1_a : Int) (p3_cmp p3_cmp' : TLook → TLook → Option Int) (hp3_cmp : ∀ x0 x1, LeO (p3_cmp x0 x1) (p3_cmp' x0 x1)) (s8 : (Int × (List TLook))) : LeO (slices_insertionSortCmpFunc_calx_api_Look_l2_c fuel p0_data p1_a p3_cmp s8) (slices_insertionSortCmpFunc_calx_api_Look_l2 p0_data p1_a p3_cmp' s8) := by
  unfold slices_insertionSortCmpFunc_calx_api_Look_l2_c slices_insertionSortCmpFunc_calx_api_Look_l2
  repeat' first
    | with_reducible apply LeO.bind
    | with_reducible apply hp3_cmp
    | with_reducible apply LeO.guard
    | with_reducible apply LeO.ite
    | with_reducible apply LeO.loop
    | with_reducible apply LeO.fold
    | with_reducible exact LeO.refl _
    | (intro (u : Sum _ _); cases u <;> dsimp only)
    | intro _
def slices_insertionSortCmpFunc_calx_api_Look_l1_c (fuel : Nat) (p0_data : (List TLook)) (p1_a : Int) (p2_b : Int) (p3_cmp : TLook → TLook → Option Int) (s3 : (Int × (List TLook))) : Option ((Int × (List TLook)) ⊕ (Int × (List TLook))) :=
  (if decide (s3.1 < p2_b) = true then ((loopF fuel (slices_insertionSortCmpFunc_calx_api_Look_l2_c fuel p0_data p1_a p3_cmp) (s3.1, s3.2)).bind fun u9 => some (.inl (w64 (s3.1 + 1), u9.2))) else some (.inr (s3.1, s3.2)))
theorem slices_insertionSortCmpFunc_calx_api_Look_l1_le (fuel : Nat) (p0_data : (List TLook)) (p1_a : Int) (p2_b : Int) (p3_cmp p3_cmp' : TLook → TLook → Option Int) (hp3_cmp : ∀ x0 x1, LeO (p3_cmp x0 x1) (p3_cmp' x0 x1)) (s3 : (Int × (List TLook))) : LeO (slices_insertionSortCmpFunc_calx_api_Look_l1_c fuel p0_data p1_a p2_b p3_cmp s3) (slices_insertionSortCmpFunc_calx_api_Look_l1 p0_data p1_a p2_b p3_cmp' s3) := by
  unfold slices_insertionSortCmpFunc_calx_api_Look_l1_c slices_insertionSortCmpFunc_calx_api_Look_l1
  repeat' first
    | with_reducible apply LeO.bind
    | with_reducible apply hp3_cmp
    | with_reducible apply slices_insertionSortCmpFunc_calx_api_Look_l2_le
    | with_reducible apply LeO.guard
    | with_reducible apply LeO.ite
    | with_reducible apply LeO.loop
    | with_reducible apply LeO.fold
    | with_reducible exact LeO.refl _
    | (intro (u : Sum _ _); cases u <;> dsimp only)
    | intro _
def slices_insertionSortCmpFunc_calx_api_Look_c (fuel : Nat) (p0_data : (List TLook)) (p1_a : Int) (p2_b : Int) (p3_cmp : TLook → TLook → Option Int) : Option (List TLook) :=
  ((loopF fuel (slices_insertionSortCmpFunc_calx_api_Look_l1_c fuel p0_data p1_a p2_b p3_cmp) (w64 (p1_a + 1), p0_data)).bind fun u4 => some u4.2)
theorem slices_insertionSortCmpFunc_calx_api_Look_le (fuel : Nat) (p0_data : (List TLook)) (p1_a : Int) (p2_b : Int) (p3_cmp p3_cmp' : TLook → TLook → Option Int) (hp3_cmp : ∀ x0 x1, LeO (p3_cmp x0 x1) (p3_cmp' x0 x1)) : LeO (slices_insertionSortCmpFunc_calx_api_Look_c fuel p0_data p1_a p2_b p3_cmp) (slices_insertionSortCmpFunc_calx_api_Look p0_data p1_a p2_b p3_cmp') := by
  unfold slices_insertionSortCmpFunc_calx_api_Look_c slices_insertionSortCmpFunc_calx_api_Look
  repeat' first
    | with_reducible apply LeO.bind
    | with_reducible apply hp3_cmp
    | with_reducible apply slices_insertionSortCmpFunc_calx_api_Look_l1_le
    | with_reducible apply LeO.guard
    | with_reducible apply LeO.ite
    | with_reducible apply LeO.loop
    | with_reducible apply LeO.fold
    | with_reducible exact LeO.refl _
    | (intro (u : Sum _ _); cases u <;> dsimp only)
    | intro _

/-! math/bits.Len -/
def math_bits_Len_c (fuel : Nat) (p0_x : Int) : Option Int :=
  ((math_bits_Len64 p0_x).bind fun y1 => some y1)
theorem math_bits_Len_le (fuel : Nat) (p0_x : Int) : LeO (math_bits_Len_c fuel p0_x) (math_bits_Len p0_x) := by
  unfold math_bits_Len_c math_bits_Len
  repeat' first
    | with_reducible apply LeO.bind
    | with_reducible apply LeO.guard
    | with_reducible apply LeO.ite
    | with_reducible apply LeO.loop
    | with_reducible apply LeO.fold
    | with_reducible exact LeO.refl _
    | (intro (u : Sum _ _); cases u <;> dsimp only)
    | intro _

/-! slices.order2CmpFunc[calx/api.Look] -/
def slices_order2CmpFunc_calx_api_Look_c (fuel : Nat) (p0_data : (List TLook)) (p1_a : Int) (p2_b : Int) (p3_swaps : Int) (p4_cmp : TLook → TLook → Option Int) : Option (Int × Int × Int) :=
  guardO ((0 : Int) ≤ p2_b ∧ p2_b < ((p0_data.length : Nat) : Int)) (guardO ((0 : Int) ≤ p1_a ∧ p1_a < ((p0_data.length : Nat) : Int)) (((p4_cmp (rdL p0_data p2_b) (rdL p0_data p1_a)).bind fun y3 => (if decide (y3 < 0) = true then some (p2_b, p1_a, w64 (p3_swaps + 1)) else some (p1_a, p2_b, p3_swaps)))))
theorem slices_order2CmpFunc_calx_api_Look_le (fuel : Nat) (p0_data : (List TLook)) (p1_a : Int) (p2_b : Int) (p3_swaps : Int) (p4_cmp p4_cmp' : TLook → TLook → Option Int) (hp4_cmp : ∀ x0 x1, LeO (p4_cmp x0 x1) (p4_cmp' x0 x1)) : LeO (slices_order2CmpFunc_calx_api_Look_c fuel p0_data p1_a p2_b p3_swaps p4_cmp) (slices_order2CmpFunc_calx_api_Look p0_data p1_a p2_b p3_swaps p4_cmp') := by
  unfold slices_order2CmpFunc_calx_api_Look_c slices_order2CmpFunc_calx_api_Look
  repeat' first
    | with_reducible apply LeO.bind
    | with_reducible apply hp4_cmp
    | with_reducible apply LeO.guard
    | with_reducible apply LeO.ite
    | with_reducible apply LeO.loop
    | with_reducible apply LeO.fold
    | with_reducible exact LeO.refl _
    | (intro (u : Sum _ _); cases u <;> dsimp only)
    | intro _

/-! slices.medianCmpFunc[calx/api.Look] -/
def slices_medianCmpFunc_calx_api_Look_c (fuel : Nat) (p0_data : (List TLook)) (p1_a : Int) (p2_b : Int) (p3_c : Int) (p4_swaps : Int) (p5_cmp : TLook → TLook → Option Int) : Option (Int × Int) :=
  ((slices_order2CmpFunc_calx_api_Look_c fuel p0_data p1_a p2_b p4_swaps p5_cmp).bind fun y1 => ((slices_order2CmpFunc_calx_api_Look_c fuel p0_data y1.2.1 p3_c y1.2.2 p5_cmp).bind fun y3 => ((slices_order2CmpFunc_calx_api_Look_c fuel p0_data y1.1 y3.1 y3.2.2 p5_cmp).bind fun y5 => some (y5.2.1, y5.2.2))))
theorem slices_medianCmpFunc_calx_api_Look_le (fuel : Nat) (p0_data : (List TLook)) (p1_a : Int) (p2_b : Int) (p3_c : Int) (p4_swaps : Int) (p5_cmp p5_cmp' : TLook → TLook → Option Int) (hp5_cmp : ∀ x0 x1, LeO (p5_cmp x0 x1) (p5_cmp' x0 x1)) : LeO (slices_medianCmpFunc_calx_api_Look_c fuel p0_data p1_a p2_b p3_c p4_swaps p5_cmp) (slices_medianCmpFunc_calx_api_Look p0_data p1_a p2_b p3_c p4_swaps p5_cmp') := by
  unfold slices_medianCmpFunc_calx_api_Look_c slices_medianCmpFunc_calx_api_Look
  repeat' first
    | with_reducible apply LeO.bind
    | with_reducible apply hp5_cmp
    | with_reducible apply slices_order2CmpFunc_calx_api_Look_le
    | with_reducible apply LeO.guard
    | with_reducible apply LeO.ite
    | with_reducible apply LeO.loop
    | with_reducible apply LeO.fold
    | with_reducible exact LeO.refl _
    | (intro (u : Sum _ _); cases u <;> dsimp only)
    | intro _

/-! slices.choosePivotCmpFunc[calx/api.Look] -/
def slices_choosePivotCmpFunc_calx_api_Look_c (fuel : Nat) (p0_data : (List TLook)) (p1_a : Int) (p2_b : Int) (p3_cmp : TLook → TLook → Option Int) : Option (Int × Int) :=
  (if decide (8 ≤ w64 (p2_b - p1_a)) = true then guardO (decide (50 ≤ w64 (p2_b - p1_a)) = false) (((slices_medianCmpFunc_calx_api_Look_c fuel p0_data (w64 (p1_a + (w64 ((w64 (Int.tdiv (w64 (p2_b - p1_a)) 4)) * 1)))) (w64 (p1_a + (w64 ((w64 (Int.tdiv (w64 (p2_b - p1_a)) 4)) * 2)))) (w64 (p1_a + (w64 ((w64 (Int.tdiv (w64 (p2_b - p1_a)) 4)) * 3)))) 0 p3_cmp).bind fun y4 => (if (y4.2 == 0) = true then some (y4.1, 1) else (if (y4.2 == 12) = true then some (y4.1, 2) else some (y4.1, 0))))) else (if (0 == 0) = true then some (w64 (p1_a + (w64 ((w64 (Int.tdiv (w64 (p2_b - p1_a)) 4)) * 2))), 1) else (if (0 == 12) = true then some (w64 (p1_a + (w64 ((w64 (Int.tdiv (w64 (p2_b - p1_a)) 4)) * 2))), 2) else some (w64 (p1_a + (w64 ((w64 (Int.tdiv (w64 (p2_b - p1_a)) 4)) * 2))), 0))))
theorem slices_choosePivotCmpFunc_calx_api_Look_le (fuel : Nat) (p0_data : (List TLook)) (p1_a : Int) (p2_b : Int) (p3_cmp p3_cmp' : TLook → TLook → Option Int) (hp3_cmp : ∀ x0 x1, LeO (p3_cmp x0 x1) (p3_cmp' x0 x1)) : LeO (slices_choosePivotCmpFunc_calx_api_Look_c fuel p0_data p1_a p2_b p3_cmp) (slices_choosePivotCmpFunc_calx_api_Look p0_data p1_a p2_b p3_cmp') := by
  unfold slices_choosePivotCmpFunc_calx_api_Look_c slices_choosePivotCmpFunc_calx_api_Look
  repeat' first
    | with_reducible apply LeO.bind
    | with_reducible apply hp3_cmp
    | with_reducible apply slices_medianCmpFunc_calx_api_Look_le
    | with_reducible apply LeO.guard
    | with_reducible apply LeO.ite
    | with_reducible apply LeO.loop
    | with_reducible apply LeO.fold
    | with_reducible exact LeO.refl _
    | (intro (u : Sum _ _); cases u <;> dsimp only)
    | intro _

/-! slices.partialInsertionSortCmpFunc[calx/api.Look] -/
def slices_partialInsertionSortCmpFunc_calx_api_Look_l2_c (fuel : Nat) (p0 : (List TLook)) (p2 : Int) (p3 : TLook → TLook → Option Int) (s6 : Int) : Option (Int ⊕ Int) :=
  ((if decide (s6 < p2) = true then (guardO ((0 : Int) ≤ s6 ∧ s6 < ((p0.length : Nat) : Int)) (guardO ((0 : Int) ≤ w64 (s6 - 1) ∧ w64 (s6 - 1) < ((p0.length : Nat) : Int)) (((p3 (rdL p0 s6) (rdL p0 (w64 (s6 - 1)))).bind fun y14 => some ((!(decide (y14 < 0)))))))) else (some (false))).bind fun b9 => (if b9 = true then some (.inl (w64 (s6 + 1))) else some (.inr s6)))
theorem slices_partialInsertionSortCmpFunc_calx_api_Look_l2_le (fuel : Nat) (p0 : (List TLook)) (p2 : Int) (p3 p3' : TLook → TLook → Option Int) (hp3 : ∀ x0 x1, LeO (p3 x0 x1) (p3' x0 x1)) (s6 : Int) : LeO (slices_partialInsertionSortCmpFunc_calx_api_Look_l2_c fuel p0 p2 p3 s6) (slices_partialInsertionSortCmpFunc_calx_api_Look_l2 p0 p2 p3' s6) := by
  unfold slices_partialInsertionSortCmpFunc_calx_api_Look_l2_c slices_partialInsertionSortCmpFunc_calx_api_Look_l2
  repeat' first
    | with_reducible apply LeO.bind
    | with_reducible apply hp3
    | with_reducible apply LeO.guard
    | with_reducible apply LeO.ite
    | with_reducible apply LeO.loop
    | with_reducible apply LeO.fold
    | with_reducible exact LeO.refl _
    | (intro (u : Sum _ _); cases u <;> dsimp only)
    | intro _
def slices_partialInsertionSortCmpFunc_calx_api_Look_l1_c (fuel : Nat) (p0 : (List TLook)) (p1 : Int) (p2 : Int) (p3 : TLook → TLook → Option Int) (s2 : (Bool × Int × Int)) : Option ((Bool × Int × Int) ⊕ ((Bool × Int × Int) ⊕ (Bool × Int × Int))) :=
  (if decide (s2.2.2 < 5) = true then ((loopF fuel (slices_partialInsertionSortCmpFunc_calx_api_Look_l2_c fuel p0 p2 p3) s2.2.1).bind fun u7 => (if (u7 == p2) = true then some (.inr (.inl (true, u7, s2.2.2))) else guardO (decide (w64 (p2 - p1) < 50) = true) (some (.inr (.inl (false, u7, s2.2.2)))))) else some (.inr (.inr (s2.1, s2.2.1, s2.2.2))))
theorem slices_partialInsertionSortCmpFunc_calx_api_Look_l1_le (fuel : Nat) (p0 : (List TLook)) (p1 : Int) (p2 : Int) (p3 p3' : TLook → TLook → Option Int) (hp3 : ∀ x0 x1, LeO (p3 x0 x1) (p3' x0 x1)) (s2 : (Bool × Int × Int)) : LeO (slices_partialInsertionSortCmpFunc_calx_api_Look_l1_c fuel p0 p1 p2 p3 s2) (slices_partialInsertionSortCmpFunc_calx_api_Look_l1 p0 p1 p2 p3' s2) := by
  unfold slices_partialInsertionSortCmpFunc_calx_api_Look_l1_c slices_partialInsertionSortCmpFunc_calx_api_Look_l1
  repeat' first
    | with_reducible apply LeO.bind
    | with_reducible apply hp3
    | with_reducible apply slices_partialInsertionSortCmpFunc_calx_api_Look_l2_le
    | with_reducible apply LeO.guard
    | with_reducible apply LeO.ite
    | with_reducible apply LeO.loop
    | with_reducible apply LeO.fold
    | with_reducible exact LeO.refl _
    | (intro (u : Sum _ _); cases u <;> dsimp only)
    | intro _
def slices_partialInsertionSortCmpFunc_calx_api_Look_c (fuel : Nat) (p0 : (List TLook)) (p1 : Int) (p2 : Int) (p3 : TLook → TLook → Option Int) : Option (Bool × (List TLook)) :=
  ((loopF fuel (slices_partialInsertionSortCmpFunc_calx_api_Look_l1_c fuel p0 p1 p2 p3) (false, w64 (p1 + 1), 0)).bind fun u3 => match u3 with | (.inl u20) => some (u20.1, p0) | (.inr u21) => some (false, p0))
theorem slices_partialInsertionSortCmpFunc_calx_api_Look_le (fuel : Nat) (p0 : (List TLook)) (p1 : Int) (p2 : Int) (p3 p3' : TLook → TLook → Option Int) (hp3 : ∀ x0 x1, LeO (p3 x0 x1) (p3' x0 x1)) : LeO (slices_partialInsertionSortCmpFunc_calx_api_Look_c fuel p0 p1 p2 p3) (slices_partialInsertionSortCmpFunc_calx_api_Look p0 p1 p2 p3') := by
  unfold slices_partialInsertionSortCmpFunc_calx_api_Look_c slices_partialInsertionSortCmpFunc_calx_api_Look
  repeat' first
    | with_reducible apply LeO.bind
    | with_reducible apply hp3
    | with_reducible apply slices_partialInsertionSortCmpFunc_calx_api_Look_l1_le
    | with_reducible apply LeO.guard
    | with_reducible apply LeO.ite
    | with_reducible apply LeO.loop
    | with_reducible apply LeO.fold
    | with_reducible exact LeO.refl _
    | (intro (u : Sum _ _); cases u <;> dsimp only)
    | intro _

/-! slices.partitionCmpFunc[calx/api.Look] -/
def slices_partitionCmpFunc_calx_api_Look_l1_c (fuel : Nat) (p0 : (List TLook)) (p1 : Int) (p2 : Int) (p3 : Int) (p4 : TLook → TLook → Option Int) (s6 : Int) : Option (Int ⊕ Int) :=
  ((if decide (s6 ≤ w64 (p2 - 1)) = true then (guardO ((0 : Int) ≤ s6 ∧ s6 < ((p0.length : Nat) : Int)) (guardO ((0 : Int) ≤ p1 ∧ p1 < ((p0.length : Nat) : Int)) (((p4 (rdL ((p0.set (Int.toNat p1) (rdL p0 p3)).set (Int.toNat p3) (rdL p0 p1)) s6) (rdL ((p0.set (Int.toNat p1) (rdL p0 p3)).set (Int.toNat p3) (rdL p0 p1)) p1)).bind fun y14 => some (decide (y14 < 0)))))) else (some (false))).bind fun b9 => (if b9 = true then some (.inl (w64 (s6 + 1))) else some (.inr s6)))
theorem slices_partitionCmpFunc_calx_api_Look_l1_le (fuel : Nat) (p0 : (List TLook)) (p1 : Int) (p2 : Int) (p3 : Int) (p4 p4' : TLook → TLook → Option Int) (hp4 : ∀ x0 x1, LeO (p4 x0 x1) (p4' x0 x1)) (s6 : Int) : LeO (slices_partitionCmpFunc_calx_api_Look_l1_c fuel p0 p1 p2 p3 p4 s6) (slices_partitionCmpFunc_calx_api_Look_l1 p0 p1 p2 p3 p4' s6) := by
  unfold slices_partitionCmpFunc_calx_api_Look_l1_c slices_partitionCmpFunc_calx_api_Look_l1
  repeat' first
    | with_reducible apply LeO.bind
    | with_reducible apply hp4
    | with_reducible apply LeO.guard
    | with_reducible apply LeO.ite
    | with_reducible apply LeO.loop
    | with_reducible apply LeO.fold
    | with_reducible exact LeO.refl _
    | (intro (u : Sum _ _); cases u <;> dsimp only)
    | intro _
def slices_partitionCmpFunc_calx_api_Look_l2_c (fuel : Nat) (p0 : (List TLook)) (p1 : Int) (p3 : Int) (p4 : TLook → TLook → Option Int) (u7 : Int) (s18 : Int) : Option (Int ⊕ Int) :=
  ((if decide (u7 ≤ s18) = true then (guardO ((0 : Int) ≤ s18 ∧ s18 < ((p0.length : Nat) : Int)) (guardO ((0 : Int) ≤ p1 ∧ p1 < ((p0.length : Nat) : Int)) (((p4 (rdL ((p0.set (Int.toNat p1) (rdL p0 p3)).set (Int.toNat p3) (rdL p0 p1)) s18) (rdL ((p0.set (Int.toNat p1) (rdL p0 p3)).set (Int.toNat p3) (rdL p0 p1)) p1)).bind fun y26 => some ((!(decide (y26 < 0)))))))) else (some (false))).bind fun b21 => (if b21 = true then some (.inl (w64 (s18 - 1))) else some (.inr s18)))
theorem slices_partitionCmpFunc_calx_api_Look_l2_le (fuel : Nat) (p0 : (List TLook)) (p1 : Int) (p3 : Int) (p4 p4' : TLook → TLook → Option Int) (hp4 : ∀ x0 x1, LeO (p4 x0 x1) (p4' x0 x1)) (u7 : Int) (s18 : Int) : LeO (slices_partitionCmpFunc_calx_api_Look_l2_c fuel p0 p1 p3 p4 u7 s18) (slices_partitionCmpFunc_calx_api_Look_l2 p0 p1 p3 p4' u7 s18) := by
  unfold slices_partitionCmpFunc_calx_api_Look_l2_c slices_partitionCmpFunc_calx_api_Look_l2
  repeat' first
    | with_reducible apply LeO.bind
    | with_reducible apply hp4
    | with_reducible apply LeO.guard
    | with_reducible apply LeO.ite
    | with_reducible apply LeO.loop
    | with_reducible apply LeO.fold
    | with_reducible exact LeO.refl _
    | (intro (u : Sum _ _); cases u <;> dsimp only)
    | intro _
def slices_partitionCmpFunc_calx_api_Look_l4_c (fuel : Nat) (p0 : (List TLook)) (p1 : Int) (p4 : TLook → TLook → Option Int) (s40 : (Int × Int × (List TLook))) (s43 : Int) : Option (Int ⊕ Int) :=
  ((if decide (s43 ≤ s40.2.1) = true then (guardO ((0 : Int) ≤ s43 ∧ s43 < ((p0.length : Nat) : Int)) (guardO ((0 : Int) ≤ p1 ∧ p1 < ((p0.length : Nat) : Int)) (((p4 (rdL s40.2.2 s43) (rdL s40.2.2 p1)).bind fun y51 => some (decide (y51 < 0)))))) else (some (false))).bind fun b46 => (if b46 = true then some (.inl (w64 (s43 + 1))) else some (.inr s43)))
theorem slices_partitionCmpFunc_calx_api_Look_l4_le (fuel : Nat) (p0 : (List TLook)) (p1 : Int) (p4 p4' : TLook → TLook → Option Int) (hp4 : ∀ x0 x1, LeO (p4 x0 x1) (p4' x0 x1)) (s40 : (Int × Int × (List TLook))) (s43 : Int) : LeO (slices_partitionCmpFunc_calx_api_Look_l4_c fuel p0 p1 p4 s40 s43) (slices_partitionCmpFunc_calx_api_Look_l4 p0 p1 p4' s40 s43) := by
  unfold slices_partitionCmpFunc_calx_api_Look_l4_c slices_partitionCmpFunc_calx_api_Look_l4
  repeat' first
    | with_reducible apply LeO.bind
    | with_reducible apply hp4
    | with_reducible apply LeO.guard
    | with_reducible apply LeO.ite
    | with_reducible apply LeO.loop
    | with_reducible apply LeO.fold
    | with_reducible exact LeO.refl _
    | (intro (u : Sum _ _); cases u <;> dsimp only)
    | intro _
def slices_partitionCmpFunc_calx_api_Look_l5_c (fuel : Nat) (p0 : (List TLook)) (p1 : Int) (p4 : TLook → TLook → Option Int) (s40 : (Int × Int × (List TLook))) (u44 : Int) (s55 : Int) : Option (Int ⊕ Int) :=
  ((if decide (u44 ≤ s55) = true then (guardO ((0 : Int) ≤ s55 ∧ s55 < ((p0.length : Nat) : Int)) (guardO ((0 : Int) ≤ p1 ∧ p1 < ((p0.length : Nat) : Int)) (((p4 (rdL s40.2.2 s55) (rdL s40.2.2 p1)).bind fun y63 => some ((!(decide (y63 < 0)))))))) else (some (false))).bind fun b58 => (if b58 = true then some (.inl (w64 (s55 - 1))) else some (.inr s55)))
theorem slices_partitionCmpFunc_calx_api_Look_l5_le (fuel : Nat) (p0 : (List TLook)) (p1 : Int) (p4 p4' : TLook → TLook → Option Int) (hp4 : ∀ x0 x1, LeO (p4 x0 x1) (p4' x0 x1)) (s40 : (Int × Int × (List TLook))) (u44 : Int) (s55 : Int) : LeO (slices_partitionCmpFunc_calx_api_Look_l5_c fuel p0 p1 p4 s40 u44 s55) (slices_partitionCmpFunc_calx_api_Look_l5 p0 p1 p4' s40 u44 s55) := by
  unfold slices_partitionCmpFunc_calx_api_Look_l5_c slices_partitionCmpFunc_calx_api_Look_l5
  repeat' first
    | with_reducible apply LeO.bind
    | with_reducible apply hp4
    | with_reducible apply LeO.guard
    | with_reducible apply LeO.ite
    | with_reducible apply LeO.loop
    | with_reducible apply LeO.fold
    | with_reducible exact LeO.refl _
    | (intro (u : Sum _ _); cases u <;> dsimp only)
    | intro _
def slices_partitionCmpFunc_calx_api_Look_l3_c (fuel : Nat) (p0 : (List TLook)) (p1 : Int) (p4 : TLook → TLook → Option Int) (s40 : (Int × Int × (List TLook))) : Option ((Int × Int × (List TLook)) ⊕ (Int × Int × (List TLook))) :=
  ((loopF fuel (slices_partitionCmpFunc_calx_api_Look_l4_c fuel p0 p1 p4 s40) s40.1).bind fun u44 => ((loopF fuel (slices_partitionCmpFunc_calx_api_Look_l5_c fuel p0 p1 p4 s40 u44) s40.2.1).bind fun u56 => (if decide (u56 < u44) = true then some (.inr (u44, u56, s40.2.2)) else guardO ((0 : Int) ≤ u56 ∧ u56 < ((p0.length : Nat) : Int)) (guardO ((0 : Int) ≤ u44 ∧ u44 < ((p0.length : Nat) : Int)) (guardO ((0 : Int) ≤ u44 ∧ u44 < ((p0.length : Nat) : Int)) (guardO ((0 : Int) ≤ u56 ∧ u56 < ((p0.length : Nat) : Int)) (some (.inl (w64 (u44 + 1), w64 (u56 - 1), ((s40.2.2.set (Int.toNat u44) (rdL s40.2.2 u56)).set (Int.toNat u56) (rdL s40.2.2 u44)))))))))))
theorem slices_partitionCmpFunc_calx_api_Look_l3_le (fuel : Nat) (p0 : (List TLook)) (p1 : Int) (p4 p4' : TLook → TLook → Option Int) (hp4 : ∀ x0 x1, LeO (p4 x0 x1) (p4' x0 x1)) (s40 : (Int × Int × (List TLook))) : LeO (slices_partitionCmpFunc_calx_api_Look_l3_c fuel p0 p1 p4 s40) (slices_partitionCmpFunc_calx_api_Look_l3 p0 p1 p4' s40) := by
  unfold slices_partitionCmpFunc_calx_api_Look_l3_c slices_partitionCmpFunc_calx_api_Look_l3
  repeat' first
    | with_reducible apply LeO.bind
    | with_reducible apply hp4
    | with_reducible apply slices_partitionCmpFunc_calx_api_Look_l4_le
    | with_reducible apply slices_partitionCmpFunc_calx_api_Look_l5_le
    | with_reducible apply LeO.guard
    | with_reducible apply LeO.ite
    | with_reducible apply LeO.loop
    | with_reducible apply LeO.fold
    | with_reducible exact LeO.refl _
    | (intro (u : Sum _ _); cases u <;> dsimp only)
    | intro _
def slices_partitionCmpFunc_calx_api_Look_c (fuel : Nat) (p0 : (List TLook)) (p1 : Int) (p2 : Int) (p3 : Int) (p4 : TLook → TLook → Option Int) : Option (Int × Bool × (List TLook)) :=
  guardO ((0 : Int) ≤ p3 ∧ p3 < ((p0.length : Nat) : Int)) (guardO ((0 : Int) ≤ p1 ∧ p1 < ((p0.length : Nat) : Int)) (guardO ((0 : Int) ≤ p1 ∧ p1 < ((p0.length : Nat) : Int)) (guardO ((0 : Int) ≤ p3 ∧ p3 < ((p0.length : Nat) : Int)) (((loopF fuel (slices_partitionCmpFunc_calx_api_Look_l1_c fuel p0 p1 p2 p3 p4) (w64 (p1 + 1))).bind fun u7 => ((loopF fuel (slices_partitionCmpFunc_calx_api_Look_l2_c fuel p0 p1 p3 p4 u7) (w64 (p2 - 1))).bind fun u19 => (if decide (u19 < u7) = true then guardO ((0 : Int) ≤ p1 ∧ p1 < ((p0.length : Nat) : Int)) (guardO ((0 : Int) ≤ u19 ∧ u19 < ((p0.length : Nat) : Int)) (guardO ((0 : Int) ≤ u19 ∧ u19 < ((p0.length : Nat) : Int)) (guardO ((0 : Int) ≤ p1 ∧ p1 < ((p0.length : Nat) : Int)) (some (u19, true, ((((p0.set (Int.toNat p1) (rdL p0 p3)).set (Int.toNat p3) (rdL p0 p1)).set (Int.toNat u19) (rdL ((p0.set (Int.toNat p1) (rdL p0 p3)).set (Int.toNat p3) (rdL p0 p1)) p1)).set (Int.toNat p1) (rdL ((p0.set (Int.toNat p1) (rdL p0 p3)).set (Int.toNat p3) (rdL p0 p1)) u19))))))) else guardO ((0 : Int) ≤ u19 ∧ u19 < ((p0.length : Nat) : Int)) (guardO ((0 : Int) ≤ u7 ∧ u7 < ((p0.length : Nat) : Int)) (guardO ((0 : Int) ≤ u7 ∧ u7 < ((p0.length : Nat) : Int)) (guardO ((0 : Int) ≤ u19 ∧ u19 < ((p0.length : Nat) : Int)) (((loopF fuel (slices_partitionCmpFunc_calx_api_Look_l3_c fuel p0 p1 p4) (w64 (u7 + 1), w64 (u19 - 1), ((((p0.set (Int.toNat p1) (rdL p0 p3)).set (Int.toNat p3) (rdL p0 p1)).set (Int.toNat u7) (rdL ((p0.set (Int.toNat p1) (rdL p0 p3)).set (Int.toNat p3) (rdL p0 p1)) u19)).set (Int.toNat u19) (rdL ((p0.set (Int.toNat p1) (rdL p0 p3)).set (Int.toNat p3) (rdL p0 p1)) u7)))).bind fun u41 => guardO ((0 : Int) ≤ p1 ∧ p1 < ((p0.length : Nat) : Int)) (guardO ((0 : Int) ≤ u41.2.1 ∧ u41.2.1 < ((p0.length : Nat) : Int)) (guardO ((0 : Int) ≤ u41.2.1 ∧ u41.2.1 < ((p0.length : Nat) : Int)) (guardO ((0 : Int) ≤ p1 ∧ p1 < ((p0.length : Nat) : Int)) (some (u41.2.1, false, ((u41.2.2.set (Int.toNat u41.2.1) (rdL u41.2.2 p1)).set (Int.toNat p1) (rdL u41.2.2 u41.2.1)))))))))))))))))))
theorem slices_partitionCmpFunc_calx_api_Look_le (fuel : Nat) (p0 : (List TLook)) (p1 : Int) (p2 : Int) (p3 : Int) (p4 p4' : TLook → TLook → Option Int) (hp4 : ∀ x0 x1, LeO (p4 x0 x1) (p4' x0 x1)) : LeO (slices_partitionCmpFunc_calx_api_Look_c fuel p0 p1 p2 p3 p4) (slices_partitionCmpFunc_calx_api_Look p0 p1 p2 p3 p4') := by
  unfold slices_partitionCmpFunc_calx_api_Look_c slices_partitionCmpFunc_calx_api_Look
  repeat' first
    | with_reducible apply LeO.bind
    | with_reducible apply hp4
    | with_reducible apply slices_partitionCmpFunc_calx_api_Look_l1_le
    | with_reducible apply slices_partitionCmpFunc_calx_api_Look_l2_le
    | with_reducible apply slices_partitionCmpFunc_calx_api_Look_l3_le
    | with_reducible apply LeO.guard
    | with_reducible apply LeO.ite
    | with_reducible apply LeO.loop
    | with_reducible apply LeO.fold
    | with_reducible exact LeO.refl _
    | (intro (u : Sum _ _); cases u <;> dsimp only)
    | intro _

/-! slices.pdqsortCmpFunc[calx/api.Look] -/
def slices_pdqsortCmpFunc_calx_api_Look_0_l1_c (fuel : Nat) (p4 : TLook → TLook → Option Int) (s3 : (Int × Int × Int × Bool × Bool × (List TLook))) : Option ((Int × Int × Int × Bool × Bool × (List TLook)) ⊕ (Int × Int × Int × Bool × Bool × (List TLook))) :=
  guardO (decide (w64 (s3.2.1 - s3.1) ≤ 12) = true) (((slices_insertionSortCmpFunc_calx_api_Look_c fuel s3.2.2.2.2.2 s3.1 s3.2.1 p4).bind fun y6 => some (.inr (s3.1, s3.2.1, s3.2.2.1, s3.2.2.2.1, s3.2.2.2.2.1, y6))))
theorem slices_pdqsortCmpFunc_calx_api_Look_0_l1_le (fuel : Nat) (p4 p4' : TLook → TLook → Option Int) (hp4 : ∀ x0 x1, LeO (p4 x0 x1) (p4' x0 x1)) (s3 : (Int × Int × Int × Bool × Bool × (List TLook))) : LeO (slices_pdqsortCmpFunc_calx_api_Look_0_l1_c fuel p4 s3) (slices_pdqsortCmpFunc_calx_api_Look_0_l1 p4' s3) := by
  unfold slices_pdqsortCmpFunc_calx_api_Look_0_l1_c slices_pdqsortCmpFunc_calx_api_Look_0_l1
  repeat' first
    | with_reducible apply LeO.bind
    | with_reducible apply hp4
    | with_reducible apply slices_insertionSortCmpFunc_calx_api_Look_le
    | with_reducible apply LeO.guard
    | with_reducible apply LeO.ite
    | with_reducible apply LeO.loop
    | with_reducible apply LeO.fold
    | with_reducible exact LeO.refl _
    | (intro (u : Sum _ _); cases u <;> dsimp only)
    | intro _
def slices_pdqsortCmpFunc_calx_api_Look_0_c (fuel : Nat) (p0 : (List TLook)) (p1 : Int) (p2 : Int) (p3 : Int) (p4 : TLook → TLook → Option Int) : Option (List TLook) :=
  ((loopF fuel (slices_pdqsortCmpFunc_calx_api_Look_0_l1_c fuel p4) (p1, p2, p3, true, true, p0)).bind fun u4 => some u4.2.2.2.2.2)
theorem slices_pdqsortCmpFunc_calx_api_Look_0_le (fuel : Nat) (p0 : (List TLook)) (p1 : Int) (p2 : Int) (p3 : Int) (p4 p4' : TLook → TLook → Option Int) (hp4 : ∀ x0 x1, LeO (p4 x0 x1) (p4' x0 x1)) : LeO (slices_pdqsortCmpFunc_calx_api_Look_0_c fuel p0 p1 p2 p3 p4) (slices_pdqsortCmpFunc_calx_api_Look_0 p0 p1 p2 p3 p4') := by
  unfold slices_pdqsortCmpFunc_calx_api_Look_0_c slices_pdqsortCmpFunc_calx_api_Look_0
  repeat' first
    | with_reducible apply LeO.bind
    | with_reducible apply hp4
    | with_reducible apply slices_pdqsortCmpFunc_calx_api_Look_0_l1_le
    | with_reducible apply LeO.guard
    | with_reducible apply LeO.ite
    | with_reducible apply LeO.loop
    | with_reducible apply LeO.fold
    | with_reducible exact LeO.refl _
    | (intro (u : Sum _ _); cases u <;> dsimp only)
    | intro _

/-! slices.pdqsortCmpFunc[calx/api.Look] -/
def slices_pdqsortCmpFunc_calx_api_Look_l1_c (fuel : Nat) (p0 : (List TLook)) (p4 : TLook → TLook → Option Int) (s3 : (Int × Int × Int × Bool × Bool × (List TLook))) : Option ((Int × Int × Int × Bool × Bool × (List TLook)) ⊕ (Int × Int × Int × Bool × Bool × (List TLook))) :=
  (if decide (w64 (s3.2.1 - s3.1) ≤ 12) = true then ((slices_insertionSortCmpFunc_calx_api_Look_c fuel s3.2.2.2.2.2 s3.1 s3.2.1 p4).bind fun y6 => some (.inr (s3.1, s3.2.1, s3.2.2.1, s3.2.2.2.1, s3.2.2.2.2.1, y6))) else guardO ((s3.2.2.1 == 0) = false) (guardO ((!s3.2.2.2.1) = false) (((slices_choosePivotCmpFunc_calx_api_Look_c fuel s3.2.2.2.2.2 s3.1 s3.2.1 p4).bind fun y11 => guardO ((y11.2 == 2) = false) ((if ((s3.2.2.2.1 && s3.2.2.2.2.1) && (y11.2 == 1)) = true then ((slices_partialInsertionSortCmpFunc_calx_api_Look_c fuel s3.2.2.2.2.2 s3.1 s3.2.1 p4).bind fun y17 => (if y17.1 = true then some (.inr (s3.1, s3.2.1, s3.2.2.1, s3.2.2.2.1, s3.2.2.2.2.1, y17.2)) else ((if decide (0 < s3.1) = true then (guardO ((0 : Int) ≤ w64 (s3.1 - 1) ∧ w64 (s3.1 - 1) < ((p0.length : Nat) : Int)) (guardO ((0 : Int) ≤ y11.1 ∧ y11.1 < ((p0.length : Nat) : Int)) (((p4 (rdL y17.2 (w64 (s3.1 - 1))) (rdL y17.2 y11.1)).bind fun y37 => some ((!(decide (y37 < 0)))))))) else (some (false))).bind fun b22 => guardO (b22 = false) (((slices_partitionCmpFunc_calx_api_Look_c fuel y17.2 s3.1 s3.2.1 y11.1 p4).bind fun y25 => (if decide (w64 (y25.1 - s3.1) < w64 (s3.2.1 - y25.1)) = true then ((slices_pdqsortCmpFunc_calx_api_Look_0_c fuel y25.2.2 s3.1 y25.1 s3.2.2.1 p4).bind fun y29 => some (.inl (w64 (y25.1 + 1), s3.2.1, s3.2.2.1, decide (w64 (Int.tdiv (w64 (s3.2.1 - s3.1)) 8) ≤ w64 (y25.1 - s3.1)), y25.2.1, y29))) else ((slices_pdqsortCmpFunc_calx_api_Look_0_c fuel y25.2.2 (w64 (y25.1 + 1)) s3.2.1 s3.2.2.1 p4).bind fun y32 => some (.inl (s3.1, y25.1, s3.2.2.1, decide (w64 (Int.tdiv (w64 (s3.2.1 - s3.1)) 8) ≤ w64 (s3.2.1 - y25.1)), y25.2.1, y32))))))))) else ((if decide (0 < s3.1) = true then (guardO ((0 : Int) ≤ w64 (s3.1 - 1) ∧ w64 (s3.1 - 1) < ((p0.length : Nat) : Int)) (guardO ((0 : Int) ≤ y11.1 ∧ y11.1 < ((p0.length : Nat) : Int)) (((p4 (rdL s3.2.2.2.2.2 (w64 (s3.1 - 1))) (rdL s3.2.2.2.2.2 y11.1)).bind fun y55 => some ((!(decide (y55 < 0)))))))) else (some (false))).bind fun b40 => guardO (b40 = false) (((slices_partitionCmpFunc_calx_api_Look_c fuel s3.2.2.2.2.2 s3.1 s3.2.1 y11.1 p4).bind fun y43 => (if decide (w64 (y43.1 - s3.1) < w64 (s3.2.1 - y43.1)) = true then ((slices_pdqsortCmpFunc_calx_api_Look_0_c fuel y43.2.2 s3.1 y43.1 s3.2.2.1 p4).bind fun y47 => some (.inl (w64 (y43.1 + 1), s3.2.1, s3.2.2.1, decide (w64 (Int.tdiv (w64 (s3.2.1 - s3.1)) 8) ≤ w64 (y43.1 - s3.1)), y43.2.1, y47))) else ((slices_pdqsortCmpFunc_calx_api_Look_0_c fuel y43.2.2 (w64 (y43.1 + 1)) s3.2.1 s3.2.2.1 p4).bind fun y50 => some (.inl (s3.1, y43.1, s3.2.2.1, decide (w64 (Int.tdiv (w64 (s3.2.1 - s3.1)) 8) ≤ w64 (s3.2.1 - y43.1)), y43.2.1, y50)))))))))))))
theorem slices_pdqsortCmpFunc_calx_api_Look_l1_le (fuel : Nat) (p0 : (List TLook)) (p4 p4' : TLook → TLook → Option Int) (hp4 : ∀ x0 x1, LeO (p4 x0 x1) (p4' x0 x1)) (s3 : (Int × Int × Int × Bool × Bool × (List TLook))) : LeO (slices_pdqsortCmpFunc_calx_api_Look_l1_c fuel p0 p4 s3) (slices_pdqsortCmpFunc_calx_api_Look_l1 p0 p4' s3) := by
  unfold slices_pdqsortCmpFunc_calx_api_Look_l1_c slices_pdqsortCmpFunc_calx_api_Look_l1
  repeat' first
    | with_reducible apply LeO.bind
    | with_reducible apply hp4
    | with_reducible apply slices_choosePivotCmpFunc_calx_api_Look_le
    | with_reducible apply slices_insertionSortCmpFunc_calx_api_Look_le
    | with_reducible apply slices_partialInsertionSortCmpFunc_calx_api_Look_le
    | with_reducible apply slices_partitionCmpFunc_calx_api_Look_le
    | with_reducible apply slices_pdqsortCmpFunc_calx_api_Look_0_le
    | with_reducible apply LeO.guard
    | with_reducible apply LeO.ite
    | with_reducible apply LeO.loop
    | with_reducible apply LeO.fold
    | with_reducible exact LeO.refl _
    | (intro (u : Sum _ _); cases u <;> dsimp only)
    | intro _
def slices_pdqsortCmpFunc_calx_api_Look_c (fuel : Nat) (p0 : (List TLook)) (p1 : Int) (p2 : Int) (p3 : Int) (p4 : TLook → TLook → Option Int) : Option (List TLook) :=
  ((loopF fuel (slices_pdqsortCmpFunc_calx_api_Look_l1_c fuel p0 p4) (p1, p2, p3, true, true, p0)).bind fun u4 => some u4.2.2.2.2.2)
theorem slices_pdqsortCmpFunc_calx_api_Look_le (fuel : Nat) (p0 : (List TLook)) (p1 : Int) (p2 : Int) (p3 : Int) (p4 p4' : TLook → TLook → Option Int) (hp4 : ∀ x0 x1, LeO (p4 x0 x1) (p4' x0 x1)) : LeO (slices_pdqsortCmpFunc_calx_api_Look_c fuel p0 p1 p2 p3 p4) (slices_pdqsortCmpFunc_calx_api_Look p0 p1 p2 p3 p4') := by
  unfold slices_pdqsortCmpFunc_calx_api_Look_c slices_pdqsortCmpFunc_calx_api_Look
  repeat' first
    | with_reducible apply LeO.bind
    | with_reducible apply hp4
    | with_reducible apply slices_pdqsortCmpFunc_calx_api_Look_l1_le
    | with_reducible apply LeO.guard
    | with_reducible apply LeO.ite
    | with_reducible apply LeO.loop
    | with_reducible apply LeO.fold
    | with_reducible exact LeO.refl _
    | (intro (u : Sum _ _); cases u <;> dsimp only)
    | intro _

/-! slices.SortFunc[[]calx/api.Look,calx/api.Look] -/
def slices_SortFunc_calx_api_Look_calx_api_Look_c (fuel : Nat) (p0_x : (List TLook)) (p1_cmp : TLook → TLook → Option Int) : Option (List TLook) :=
  guardO ((0 : Int) ≤ ((p0_x.length : Nat) : Int) ∧ ((p0_x.length : Nat) : Int) ≤ 9223372036854775807) (((math_bits_Len_c fuel ((p0_x.length : Nat) : Int)).bind fun y2 => ((slices_pdqsortCmpFunc_calx_api_Look_c fuel p0_x 0 ((p0_x.length : Nat) : Int) y2 p1_cmp).bind fun y4 => some y4)))
theorem slices_SortFunc_calx_api_Look_calx_api_Look_le (fuel : Nat) (p0_x : (List TLook)) (p1_cmp p1_cmp' : TLook → TLook → Option Int) (hp1_cmp : ∀ x0 x1, LeO (p1_cmp x0 x1) (p1_cmp' x0 x1)) : LeO (slices_SortFunc_calx_api_Look_calx_api_Look_c fuel p0_x p1_cmp) (slices_SortFunc_calx_api_Look_calx_api_Look p0_x p1_cmp') := by
  unfold slices_SortFunc_calx_api_Look_calx_api_Look_c slices_SortFunc_calx_api_Look_calx_api_Look
  repeat' first
    | with_reducible apply LeO.bind
    | with_reducible apply hp1_cmp
    | with_reducible apply math_bits_Len_le
    | with_reducible apply slices_pdqsortCmpFunc_calx_api_Look_le
    | with_reducible apply LeO.guard
    | with_reducible apply LeO.ite
    | with_reducible apply LeO.loop
    | with_reducible apply LeO.fold
    | with_reducible exact LeO.refl _
    | (intro (u : Sum _ _); cases u <;> dsimp only)
    | intro _

/-! slices.SortedFunc[calx/api.Look] -/
def slices_SortedFunc_calx_api_Look_c (fuel : Nat) (p0_seq : (List TLook)) (p1_cmp : TLook → TLook → Option Int) : Option (List TLook) :=
  ((slices_Collect_calx_api_Look_c fuel p0_seq).bind fun y1 => ((slices_SortFunc_calx_api_Look_calx_api_Look_c fuel y1 p1_cmp).bind fun y7 => some y7))
theorem slices_SortedFunc_calx_api_Look_le (fuel : Nat) (p0_seq : (List TLook)) (p1_cmp p1_cmp' : TLook → TLook → Option Int) (hp1_cmp : ∀ x0 x1, LeO (p1_cmp x0 x1) (p1_cmp' x0 x1)) : LeO (slices_SortedFunc_calx_api_Look_c fuel p0_seq p1_cmp) (slices_SortedFunc_calx_api_Look p0_seq p1_cmp') := by
  unfold slices_SortedFunc_calx_api_Look_c slices_SortedFunc_calx_api_Look
  repeat' first
    | with_reducible apply LeO.bind
    | with_reducible apply hp1_cmp
    | with_reducible apply slices_Collect_calx_api_Look_le
    | with_reducible apply slices_SortFunc_calx_api_Look_calx_api_Look_le
    | with_reducible apply LeO.guard
    | with_reducible apply LeO.ite
    | with_reducible apply LeO.loop
    | with_reducible apply LeO.fold
    | with_reducible exact LeO.refl _
    | (intro (u : Sum _ _); cases u <;> dsimp only)
    | intro _

/-! calx/fire.sorted$1 -/
def fire_sorted_1_c (fuel : Nat) (p0_a : TLook) (p1_b : TLook) : Option Int :=
  some (w64 (p0_a.fID - p1_b.fID))
theorem fire_sorted_1_le (fuel : Nat) (p0_a : TLook) (p1_b : TLook) : LeO (fire_sorted_1_c fuel p0_a p1_b) (fire_sorted_1 p0_a p1_b) := by
  unfold fire_sorted_1_c fire_sorted_1
  repeat' first
    | with_reducible apply LeO.bind
    | with_reducible apply LeO.guard
    | with_reducible apply LeO.ite
    | with_reducible apply LeO.loop
    | with_reducible apply LeO.fold
    | with_reducible exact LeO.refl _
    | (intro (u : Sum _ _); cases u <;> dsimp only)
    | intro _

/-! calx/fire.sorted -/
def fire_sorted_c (fuel : Nat) (p0_f : TFire) : Option (List TLook) :=
  ((slices_Values_calx_api_Look_calx_api_Look_c fuel p0_f.fLooks).bind fun y2 => ((slices_SortedFunc_calx_api_Look_c fuel p0_f.fLooks (fun x5 x6 => fire_sorted_1_c fuel x5 x6)).bind fun y7 => ((slices_Values_calx_api_Look_calx_api_Look_c fuel y7).bind fun y13 => some y7)))
theorem fire_sorted_le (fuel : Nat) (p0_f : TFire) : LeO (fire_sorted_c fuel p0_f) (fire_sorted p0_f) := by
  unfold fire_sorted_c fire_sorted
  repeat' first
    | with_reducible apply LeO.bind
    | with_reducible apply fire_sorted_1_le
    | with_reducible apply slices_SortedFunc_calx_api_Look_le
    | with_reducible apply slices_Values_calx_api_Look_calx_api_Look_le
    | with_reducible apply LeO.guard
    | with_reducible apply LeO.ite
    | with_reducible apply LeO.loop
    | with_reducible apply LeO.fold
    | with_reducible exact LeO.refl _
    | (intro (u : Sum _ _); cases u <;> dsimp only)
    | intro _

/-! calx/fire.clash -/
def fire_clash_r2_c (fuel : Nat) (p0_f : TFire) (x21 : TLook) (s39 : (Int × Int × Int × Int × Int × Int × Int × Int × Int × Int × Bool)) (x40 : TLook) : Option ((Int × Int × Int × Int × Int × Int × Int × Int × Int × Int × Bool) ⊕ (Int × Int × Int × Int × Int × Int × Int × Int × Int × Int × Bool)) :=
  ((fire_against_c fuel p0_f x21 x40).bind fun y43 => (if y43 = true then some (.inr (x21.fID, x21.fAt.fFoot, x21.fAt.fHour, x21.fHeat.fLo, x21.fHeat.fHi, x40.fID, x40.fAt.fFoot, x40.fAt.fHour, x40.fHeat.fLo, x40.fHeat.fHi, true)) else some (.inl (s39.1, s39.2.1, s39.2.2.1, s39.2.2.2.1, s39.2.2.2.2.1, s39.2.2.2.2.2.1, s39.2.2.2.2.2.2.1, s39.2.2.2.2.2.2.2.1, s39.2.2.2.2.2.2.2.2.1, s39.2.2.2.2.2.2.2.2.2.1, s39.2.2.2.2.2.2.2.2.2.2))))
theorem fire_clash_r2_le (fuel : Nat) (p0_f : TFire) (x21 : TLook) (s39 : (Int × Int × Int × Int × Int × Int × Int × Int × Int × Int × Bool)) (x40 : TLook) : LeO (fire_clash_r2_c fuel p0_f x21 s39 x40) (fire_clash_r2 p0_f x21 s39 x40) := by
  unfold fire_clash_r2_c fire_clash_r2
  repeat' first
    | with_reducible apply LeO.bind
    | with_reducible apply fire_against_le
    | with_reducible apply LeO.guard
    | with_reducible apply LeO.ite
    | with_reducible apply LeO.loop
    | with_reducible apply LeO.fold
    | with_reducible exact LeO.refl _
    | (intro (u : Sum _ _); cases u <;> dsimp only)
    | intro _
def fire_clash_r1_c (fuel : Nat) (p0_f : TFire) (s20 : (Int × Int × Int × Int × Int × Int × Int × Int × Int × Int × Bool)) (x21 : TLook) : Option ((Int × Int × Int × Int × Int × Int × Int × Int × Int × Int × Bool) ⊕ (Int × Int × Int × Int × Int × Int × Int × Int × Int × Int × Bool)) :=
  ((fire_sorted_c fuel p0_f).bind fun y24 => (guardO (seqLook_ok y24) ((foldO (fire_clash_r2_c fuel p0_f x21) (seqLook y24) (s20.1, s20.2.1, s20.2.2.1, s20.2.2.2.1, s20.2.2.2.2.1, s20.2.2.2.2.2.1, s20.2.2.2.2.2.2.1, s20.2.2.2.2.2.2.2.1, s20.2.2.2.2.2.2.2.2.1, s20.2.2.2.2.2.2.2.2.2.1, s20.2.2.2.2.2.2.2.2.2.2)).bind fun u41 => match u41 with | .inl u49 => some (.inl (u49.1, u49.2.1, u49.2.2.1, u49.2.2.2.1, u49.2.2.2.2.1, u49.2.2.2.2.2.1, u49.2.2.2.2.2.2.1, u49.2.2.2.2.2.2.2.1, u49.2.2.2.2.2.2.2.2.1, u49.2.2.2.2.2.2.2.2.2.1, u49.2.2.2.2.2.2.2.2.2.2)) | .inr u50 => some (.inr (u50.1, u50.2.1, u50.2.2.1, u50.2.2.2.1, u50.2.2.2.2.1, u50.2.2.2.2.2.1, u50.2.2.2.2.2.2.1, u50.2.2.2.2.2.2.2.1, u50.2.2.2.2.2.2.2.2.1, u50.2.2.2.2.2.2.2.2.2.1, u50.2.2.2.2.2.2.2.2.2.2)))))
theorem fire_clash_r1_le (fuel : Nat) (p0_f : TFire) (s20 : (Int × Int × Int × Int × Int × Int × Int × Int × Int × Int × Bool)) (x21 : TLook) : LeO (fire_clash_r1_c fuel p0_f s20 x21) (fire_clash_r1 p0_f s20 x21) := by
  unfold fire_clash_r1_c fire_clash_r1
  repeat' first
    | with_reducible apply LeO.bind
    | with_reducible apply fire_clash_r2_le
    | with_reducible apply fire_sorted_le
    | with_reducible apply LeO.guard
    | with_reducible apply LeO.ite
    | with_reducible apply LeO.loop
    | with_reducible apply LeO.fold
    | with_reducible exact LeO.refl _
    | (intro (u : Sum _ _); cases u <;> dsimp only)
    | intro _
def fire_clash_c (fuel : Nat) (p0_f : TFire) : Option (TLook × TLook × Bool) :=
  ((fire_sorted_c fuel p0_f).bind fun y5 => (guardO (seqLook_ok y5) ((foldO (fire_clash_r1_c fuel p0_f) (seqLook y5) (0, 0, 0, 0, 0, 0, 0, 0, 0, 0, false)).bind fun u22 => match u22 with | .inl u53 => some ((TLook.mk u53.1 (TSpot.mk u53.2.1 u53.2.2.1) (TSpan.mk u53.2.2.2.1 u53.2.2.2.2.1)), (TLook.mk u53.2.2.2.2.2.1 (TSpot.mk u53.2.2.2.2.2.2.1 u53.2.2.2.2.2.2.2.1) (TSpan.mk u53.2.2.2.2.2.2.2.2.1 u53.2.2.2.2.2.2.2.2.2.1)), u53.2.2.2.2.2.2.2.2.2.2) | .inr u55 => some ((TLook.mk u55.1 (TSpot.mk u55.2.1 u55.2.2.1) (TSpan.mk u55.2.2.2.1 u55.2.2.2.2.1)), (TLook.mk u55.2.2.2.2.2.1 (TSpot.mk u55.2.2.2.2.2.2.1 u55.2.2.2.2.2.2.2.1) (TSpan.mk u55.2.2.2.2.2.2.2.2.1 u55.2.2.2.2.2.2.2.2.2.1)), u55.2.2.2.2.2.2.2.2.2.2))))
theorem fire_clash_le (fuel : Nat) (p0_f : TFire) : LeO (fire_clash_c fuel p0_f) (fire_clash p0_f) := by
  unfold fire_clash_c fire_clash
  repeat' first
    | with_reducible apply LeO.bind
    | with_reducible apply fire_clash_r1_le
    | with_reducible apply fire_sorted_le
    | with_reducible apply LeO.guard
    | with_reducible apply LeO.ite
    | with_reducible apply LeO.loop
    | with_reducible apply LeO.fold
    | with_reducible exact LeO.refl _
    | (intro (u : Sum _ _); cases u <;> dsimp only)
    | intro _

/-! calx/fire.agree -/
def fire_agree_c (fuel : Nat) (p0_f : TFire) : Option Bool :=
  ((fire_clash_c fuel p0_f).bind fun y2 => some (!y2.2.2))
theorem fire_agree_le (fuel : Nat) (p0_f : TFire) : LeO (fire_agree_c fuel p0_f) (fire_agree p0_f) := by
  unfold fire_agree_c fire_agree
  repeat' first
    | with_reducible apply LeO.bind
    | with_reducible apply fire_clash_le
    | with_reducible apply LeO.guard
    | with_reducible apply LeO.ite
    | with_reducible apply LeO.loop
    | with_reducible apply LeO.fold
    | with_reducible exact LeO.refl _
    | (intro (u : Sum _ _); cases u <;> dsimp only)
    | intro _

/-! calx/fire.agreed -/
def fire_agreed_c (fuel : Nat) (p0_f : TFire) (p1_e : Int) : Option Int :=
  ((if (p1_e == 0) = true then ((fire_agree_c fuel p0_f).bind fun y6 => some ((!y6))) else (some (false))).bind fun b3 => (if b3 = true then some 9 else some p1_e))
theorem fire_agreed_le (fuel : Nat) (p0_f : TFire) (p1_e : Int) : LeO (fire_agreed_c fuel p0_f p1_e) (fire_agreed p0_f p1_e) := by
  unfold fire_agreed_c fire_agreed
  repeat' first
    | with_reducible apply LeO.bind
    | with_reducible apply fire_agree_le
    | with_reducible apply LeO.guard
    | with_reducible apply LeO.ite
    | with_reducible apply LeO.loop
    | with_reducible apply LeO.fold
    | with_reducible exact LeO.refl _
    | (intro (u : Sum _ _); cases u <;> dsimp only)
    | intro _

/-! slices.IndexFunc[[]calx/api.Spot,calx/api.Spot] -/
def slices_IndexFunc_calx_api_Spot_calx_api_Spot_l1_c (fuel : Nat) (p0_s : (List TSpot)) (p1_f : TSpot → Option Bool) (s2 : (Int × Int)) : Option ((Int × Int) ⊕ ((Int × Int) ⊕ (Int × Int))) :=
  (if decide (s2.2 < ((p0_s.length : Nat) : Int)) = true then guardO ((0 : Int) ≤ s2.2 ∧ s2.2 < ((p0_s.length : Nat) : Int)) (((p1_f (TSpot.mk ((rdL p0_s s2.2).fFoot) ((rdL p0_s s2.2).fHour))).bind fun y6 => (if y6 = true then some (.inr (.inl (s2.2, s2.2))) else some (.inl (s2.1, w64 (s2.2 + 1)))))) else some (.inr (.inr (s2.1, s2.2))))
theorem slices_IndexFunc_calx_api_Spot_calx_api_Spot_l1_le (fuel : Nat) (p0_s : (List TSpot)) (p1_f p1_f' : TSpot → Option Bool) (hp1_f : ∀ x, LeO (p1_f x) (p1_f' x)) (s2 : (Int × Int)) : LeO (slices_IndexFunc_calx_api_Spot_calx_api_Spot_l1_c fuel p0_s p1_f s2) (slices_IndexFunc_calx_api_Spot_calx_api_Spot_l1 p0_s p1_f' s2) := by
  unfold slices_IndexFunc_calx_api_Spot_calx_api_Spot_l1_c slices_IndexFunc_calx_api_Spot_calx_api_Spot_l1
  repeat' first
    | with_reducible apply LeO.bind
    | with_reducible apply hp1_f
    | with_reducible apply LeO.guard
    | with_reducible apply LeO.ite
    | with_reducible apply LeO.loop
    | with_reducible apply LeO.fold
    | with_reducible exact LeO.refl _
    | (intro (u : Sum _ _); cases u <;> dsimp only)
    | intro _
def slices_IndexFunc_calx_api_Spot_calx_api_Spot_c (fuel : Nat) (p0_s : (List TSpot)) (p1_f : TSpot → Option Bool) : Option Int :=
  ((loopF fuel (slices_IndexFunc_calx_api_Spot_calx_api_Spot_l1_c fuel p0_s p1_f) (0, 0)).bind fun u3 => match u3 with | (.inl u10) => some u10.1 | (.inr u11) => some (-1))
theorem slices_IndexFunc_calx_api_Spot_calx_api_Spot_le (fuel : Nat) (p0_s : (List TSpot)) (p1_f p1_f' : TSpot → Option Bool) (hp1_f : ∀ x, LeO (p1_f x) (p1_f' x)) : LeO (slices_IndexFunc_calx_api_Spot_calx_api_Spot_c fuel p0_s p1_f) (slices_IndexFunc_calx_api_Spot_calx_api_Spot p0_s p1_f') := by
  unfold slices_IndexFunc_calx_api_Spot_calx_api_Spot_c slices_IndexFunc_calx_api_Spot_calx_api_Spot
  repeat' first
    | with_reducible apply LeO.bind
    | with_reducible apply hp1_f
    | with_reducible apply slices_IndexFunc_calx_api_Spot_calx_api_Spot_l1_le
    | with_reducible apply LeO.guard
    | with_reducible apply LeO.ite
    | with_reducible apply LeO.loop
    | with_reducible apply LeO.fold
    | with_reducible exact LeO.refl _
    | (intro (u : Sum _ _); cases u <;> dsimp only)
    | intro _

/-! slices.ContainsFunc[[]calx/api.Spot,calx/api.Spot] -/
def slices_ContainsFunc_calx_api_Spot_calx_api_Spot_c (fuel : Nat) (p0_s : (List TSpot)) (p1_f : TSpot → Option Bool) : Option Bool :=
  ((slices_IndexFunc_calx_api_Spot_calx_api_Spot_c fuel p0_s p1_f).bind fun y1 => some (decide (0 ≤ y1)))
theorem slices_ContainsFunc_calx_api_Spot_calx_api_Spot_le (fuel : Nat) (p0_s : (List TSpot)) (p1_f p1_f' : TSpot → Option Bool) (hp1_f : ∀ x, LeO (p1_f x) (p1_f' x)) : LeO (slices_ContainsFunc_calx_api_Spot_calx_api_Spot_c fuel p0_s p1_f) (slices_ContainsFunc_calx_api_Spot_calx_api_Spot p0_s p1_f') := by
  unfold slices_ContainsFunc_calx_api_Spot_calx_api_Spot_c slices_ContainsFunc_calx_api_Spot_calx_api_Spot
  repeat' first
    | with_reducible apply LeO.bind
    | with_reducible apply hp1_f
    | with_reducible apply slices_IndexFunc_calx_api_Spot_calx_api_Spot_le
    | with_reducible apply LeO.guard
    | with_reducible apply LeO.ite
    | with_reducible apply LeO.loop
    | with_reducible apply LeO.fold
    | with_reducible exact LeO.refl _
    | (intro (u : Sum _ _); cases u <;> dsimp only)
    | intro _

/-! calx/fire.spots$1 -/
def fire_spots_1_c (fuel : Nat) (p0_s : TSpot) : Option Bool :=
  ((fire_right_c fuel p0_s).bind fun y2 => some (!y2))
theorem fire_spots_1_le (fuel : Nat) (p0_s : TSpot) : LeO (fire_spots_1_c fuel p0_s) (fire_spots_1 p0_s) := by
  unfold fire_spots_1_c fire_spots_1
  repeat' first
    | with_reducible apply LeO.bind
    | with_reducible apply fire_right_le
    | with_reducible apply LeO.guard
    | with_reducible apply LeO.ite
    | with_reducible apply LeO.loop
    | with_reducible apply LeO.fold
    | with_reducible exact LeO.refl _
    | (intro (u : Sum _ _); cases u <;> dsimp only)
    | intro _

/-! calx/fire.spots -/
def fire_spots_c (fuel : Nat) (p0_f : TFire) (p1_l : (List TSpot)) : Option Int :=
  ((fire_Check_c fuel p0_f).bind fun y2 => (if (y2 != 0) = true then some y2 else ((slices_ContainsFunc_calx_api_Spot_calx_api_Spot_c fuel p1_l (fun x5 => fire_spots_1_c fuel x5)).bind fun y6 => (if y6 = true then some 1 else some 0))))
theorem fire_spots_le (fuel : Nat) (p0_f : TFire) (p1_l : (List TSpot)) : LeO (fire_spots_c fuel p0_f p1_l) (fire_spots p0_f p1_l) := by
  unfold fire_spots_c fire_spots
  repeat' first
    | with_reducible apply LeO.bind
    | with_reducible apply fire_Check_le
    | with_reducible apply fire_spots_1_le
    | with_reducible apply slices_ContainsFunc_calx_api_Spot_calx_api_Spot_le
    | with_reducible apply LeO.guard
    | with_reducible apply LeO.ite
    | with_reducible apply LeO.loop
    | with_reducible apply LeO.fold
    | with_reducible exact LeO.refl _
    | (intro (u : Sum _ _); cases u <;> dsimp only)
    | intro _

/-! calx/fire.low$1 -/
def fire_low_1_c (fuel : Nat) (p0_x : TLook) (cap0 : TFire) (cap1 : TSpot) : Option Int :=
  ((fire_far_c fuel cap0 cap1 p0_x.fAt).bind fun y2 => some (w64 (p0_x.fHeat.fLo - y2)))
theorem fire_low_1_le (fuel : Nat) (p0_x : TLook) (cap0 : TFire) (cap1 : TSpot) : LeO (fire_low_1_c fuel p0_x cap0 cap1) (fire_low_1 p0_x cap0 cap1) := by
  unfold fire_low_1_c fire_low_1
  repeat' first
    | with_reducible apply LeO.bind
    | with_reducible apply fire_far_le
    | with_reducible apply LeO.guard
    | with_reducible apply LeO.ite
    | with_reducible apply LeO.loop
    | with_reducible apply LeO.fold
    | with_reducible exact LeO.refl _
    | (intro (u : Sum _ _); cases u <;> dsimp only)
    | intro _

/-! calx/fire.low -/
def fire_low_c (fuel : Nat) (p0_f : TFire) (p1_at : TSpot) : Option Unit :=
  some ()
theorem fire_low_le (fuel : Nat) (p0_f : TFire) (p1_at : TSpot) : LeO (fire_low_c fuel p0_f p1_at) (fire_low p0_f p1_at) := by
  unfold fire_low_c fire_low
  repeat' first
    | with_reducible apply LeO.bind
    | with_reducible apply LeO.guard
    | with_reducible apply LeO.ite
    | with_reducible apply LeO.loop
    | with_reducible apply LeO.fold
    | with_reducible exact LeO.refl _
    | (intro (u : Sum _ _); cases u <;> dsimp only)
    | intro _

/-! calx/fire.high$1 -/
def fire_high_1_c (fuel : Nat) (p0_x : TLook) (cap0 : TFire) (cap1 : TSpot) : Option Int :=
  ((fire_far_c fuel cap0 p0_x.fAt cap1).bind fun y2 => some (w64 (p0_x.fHeat.fHi + y2)))
theorem fire_high_1_le (fuel : Nat) (p0_x : TLook) (cap0 : TFire) (cap1 : TSpot) : LeO (fire_high_1_c fuel p0_x cap0 cap1) (fire_high_1 p0_x cap0 cap1) := by
  unfold fire_high_1_c fire_high_1
  repeat' first
    | with_reducible apply LeO.bind
    | with_reducible apply fire_far_le
    | with_reducible apply LeO.guard
    | with_reducible apply LeO.ite
    | with_reducible apply LeO.loop
    | with_reducible apply LeO.fold
    | with_reducible exact LeO.refl _
    | (intro (u : Sum _ _); cases u <;> dsimp only)
    | intro _

/-! calx/fire.high -/
def fire_high_c (fuel : Nat) (p0_f : TFire) (p1_at : TSpot) : Option Unit :=
  some ()
theorem fire_high_le (fuel : Nat) (p0_f : TFire) (p1_at : TSpot) : LeO (fire_high_c fuel p0_f p1_at) (fire_high p0_f p1_at) := by
  unfold fire_high_c fire_high
  repeat' first
    | with_reducible apply LeO.bind
    | with_reducible apply LeO.guard
    | with_reducible apply LeO.ite
    | with_reducible apply LeO.loop
    | with_reducible apply LeO.fold
    | with_reducible exact LeO.refl _
    | (intro (u : Sum _ _); cases u <;> dsimp only)
    | intro _

/-! calx/fire.best[calx/api.Look] -/
def fire_best_calx_api_Look_r1_c (fuel : Nat) (p2_tell : TLook → Option Int) (p3_better : Int → Int → Option Bool) (s15 : Int) (x16 : TLook) : Option (Int ⊕ Unit) :=
  ((p2_tell x16).bind fun y19 => ((p3_better y19 s15).bind fun y21 => (if y21 = true then some (.inl y19) else some (.inl s15))))
theorem fire_best_calx_api_Look_r1_le (fuel : Nat) (p2_tell p2_tell' : TLook → Option Int) (hp2_tell : ∀ x, LeO (p2_tell x) (p2_tell' x)) (p3_better p3_better' : Int → Int → Option Bool) (hp3_better : ∀ x0 x1, LeO (p3_better x0 x1) (p3_better' x0 x1)) (s15 : Int) (x16 : TLook) : LeO (fire_best_calx_api_Look_r1_c fuel p2_tell p3_better s15 x16) (fire_best_calx_api_Look_r1 p2_tell' p3_better' s15 x16) := by
  unfold fire_best_calx_api_Look_r1_c fire_best_calx_api_Look_r1
  repeat' first
    | with_reducible apply LeO.bind
    | with_reducible apply hp2_tell
    | with_reducible apply hp3_better
    | with_reducible apply LeO.guard
    | with_reducible apply LeO.ite
    | with_reducible apply LeO.loop
    | with_reducible apply LeO.fold
    | with_reducible exact LeO.refl _
    | (intro (u : Sum _ _); cases u <;> dsimp only)
    | intro _
def fire_best_calx_api_Look_r2_c (fuel : Nat) (p2_tell : TLook → Option Int) (u26 : Int) (s35 : (Int × Int × Int × Int × Int × Int × Bool)) (x36 : TLook) : Option ((Int × Int × Int × Int × Int × Int × Bool) ⊕ (Int × Int × Int × Int × Int × Int × Bool)) :=
  ((p2_tell x36).bind fun y39 => (if (y39 == u26) = true then some (.inr (u26, x36.fID, x36.fAt.fFoot, x36.fAt.fHour, x36.fHeat.fLo, x36.fHeat.fHi, true)) else some (.inl (s35.1, s35.2.1, s35.2.2.1, s35.2.2.2.1, s35.2.2.2.2.1, s35.2.2.2.2.2.1, s35.2.2.2.2.2.2))))
theorem fire_best_calx_api_Look_r2_le (fuel : Nat) (p2_tell p2_tell' : TLook → Option Int) (hp2_tell : ∀ x, LeO (p2_tell x) (p2_tell' x)) (u26 : Int) (s35 : (Int × Int × Int × Int × Int × Int × Bool)) (x36 : TLook) : LeO (fire_best_calx_api_Look_r2_c fuel p2_tell u26 s35 x36) (fire_best_calx_api_Look_r2 p2_tell' u26 s35 x36) := by
  unfold fire_best_calx_api_Look_r2_c fire_best_calx_api_Look_r2
  repeat' first
    | with_reducible apply LeO.bind
    | with_reducible apply hp2_tell
    | with_reducible apply LeO.guard
    | with_reducible apply LeO.ite
    | with_reducible apply LeO.loop
    | with_reducible apply LeO.fold
    | with_reducible exact LeO.refl _
    | (intro (u : Sum _ _); cases u <;> dsimp only)
    | intro _
def fire_best_calx_api_Look_c (fuel : Nat) (p0_l : (List TLook)) (p1_none : Int) (p2_tell : TLook → Option Int) (p3_better : Int → Int → Option Bool) : Option (Int × TLook × Bool) :=
  (guardO (seqLook_ok p0_l) ((foldO (fire_best_calx_api_Look_r1_c fuel p2_tell p3_better) (seqLook p0_l) p1_none).bind fun u17 => match u17 with | .inl u26 => (guardO (seqLook_ok p0_l) ((foldO (fire_best_calx_api_Look_r2_c fuel p2_tell u26) (seqLook p0_l) (0, 0, 0, 0, 0, 0, false)).bind fun u37 => match u37 with | .inl u45 => some (u26, (TLook.mk 0 (TSpot.mk 0 0) (TSpan.mk 0 0)), false) | .inr u48 => some (u48.1, (TLook.mk u48.2.1 (TSpot.mk u48.2.2.1 u48.2.2.2.1) (TSpan.mk u48.2.2.2.2.1 u48.2.2.2.2.2.1)), u48.2.2.2.2.2.2))) | .inr _ => none))
theorem fire_best_calx_api_Look_le (fuel : Nat) (p0_l : (List TLook)) (p1_none : Int) (p2_tell p2_tell' : TLook → Option Int) (hp2_tell : ∀ x, LeO (p2_tell x) (p2_tell' x)) (p3_better p3_better' : Int → Int → Option Bool) (hp3_better : ∀ x0 x1, LeO (p3_better x0 x1) (p3_better' x0 x1)) : LeO (fire_best_calx_api_Look_c fuel p0_l p1_none p2_tell p3_better) (fire_best_calx_api_Look p0_l p1_none p2_tell' p3_better') := by
  unfold fire_best_calx_api_Look_c fire_best_calx_api_Look
  repeat' first
    | with_reducible apply LeO.bind
    | with_reducible apply hp2_tell
    | with_reducible apply hp3_better
    | with_reducible apply fire_best_calx_api_Look_r1_le
    | with_reducible apply fire_best_calx_api_Look_r2_le
    | with_reducible apply LeO.guard
    | with_reducible apply LeO.ite
    | with_reducible apply LeO.loop
    | with_reducible apply LeO.fold
    | with_reducible exact LeO.refl _
    | (intro (u : Sum _ _); cases u <;> dsimp only)
    | intro _

/-! calx/fire.more -/
def fire_more_c (fuel : Nat) (p0_a : Int) (p1_b : Int) : Option Bool :=
  some (decide (p1_b < p0_a))
theorem fire_more_le (fuel : Nat) (p0_a : Int) (p1_b : Int) : LeO (fire_more_c fuel p0_a p1_b) (fire_more p0_a p1_b) := by
  unfold fire_more_c fire_more
  repeat' first
    | with_reducible apply LeO.bind
    | with_reducible apply LeO.guard
    | with_reducible apply LeO.ite
    | with_reducible apply LeO.loop
    | with_reducible apply LeO.fold
    | with_reducible exact LeO.refl _
    | (intro (u : Sum _ _); cases u <;> dsimp only)
    | intro _

/-! calx/fire.less -/
def fire_less_c (fuel : Nat) (p0_a : Int) (p1_b : Int) : Option Bool :=
  some (decide (p0_a < p1_b))
theorem fire_less_le (fuel : Nat) (p0_a : Int) (p1_b : Int) : LeO (fire_less_c fuel p0_a p1_b) (fire_less p0_a p1_b) := by
  unfold fire_less_c fire_less
  repeat' first
    | with_reducible apply LeO.bind
    | with_reducible apply LeO.guard
    | with_reducible apply LeO.ite
    | with_reducible apply LeO.loop
    | with_reducible apply LeO.fold
    | with_reducible exact LeO.refl _
    | (intro (u : Sum _ _); cases u <;> dsimp only)
    | intro _

/-! calx/fire.ends -/
def fire_ends_c (fuel : Nat) (p0_f : TFire) (p1_at : TSpot) : Option TBounds :=
  ((fire_sorted_c fuel p0_f).bind fun y6 => ((fire_low_c fuel p0_f p1_at).bind fun y13 => ((fire_best_calx_api_Look_c fuel y6 0 (fun x17 => fire_low_1_c fuel x17 p0_f p1_at) (fun x18 x19 => fire_more_c fuel x18 x19)).bind fun y20 => ((fire_sorted_c fuel p0_f).bind fun y24 => ((fire_high_c fuel p0_f p1_at).bind fun y31 => ((fire_best_calx_api_Look_c fuel y24 1500 (fun x35 => fire_high_1_c fuel x35 p0_f p1_at) (fun x36 x37 => fire_less_c fuel x36 x37)).bind fun y38 => some (TBounds.mk (TSpan.mk y20.1 y38.1) y20.2.1.fID y38.2.1.fID)))))))
theorem fire_ends_le (fuel : Nat) (p0_f : TFire) (p1_at : TSpot) : LeO (fire_ends_c fuel p0_f p1_at) (fire_ends p0_f p1_at) := by
  unfold fire_ends_c fire_ends
  repeat' first
    | with_reducible apply LeO.bind
    | with_reducible apply fire_best_calx_api_Look_le
    | with_reducible apply fire_high_le
    | with_reducible apply fire_high_1_le
    | with_reducible apply fire_less_le
    | with_reducible apply fire_low_le
    | with_reducible apply fire_low_1_le
    | with_reducible apply fire_more_le
    | with_reducible apply fire_sorted_le
    | with_reducible apply LeO.guard
    | with_reducible apply LeO.ite
    | with_reducible apply LeO.loop
    | with_reducible apply LeO.fold
    | with_reducible exact LeO.refl _
    | (intro (u : Sum _ _); cases u <;> dsimp only)
    | intro _

/-! calx/fire.Ends -/
def fire_Ends_c (fuel : Nat) (p0_f : TFire) (p1_at : TSpot) : Option (TBounds × Int) :=
  ((fire_spots_c fuel p0_f [p1_at]).bind fun y6 => ((fire_agreed_c fuel p0_f y6).bind fun y8 => (if (y8 != 0) = true then some ((TBounds.mk (TSpan.mk 0 0) 0 0), y8) else ((fire_ends_c fuel p0_f p1_at).bind fun y11 => some (y11, 0)))))
theorem fire_Ends_le (fuel : Nat) (p0_f : TFire) (p1_at : TSpot) : LeO (fire_Ends_c fuel p0_f p1_at) (fire_Ends p0_f p1_at) := by
  unfold fire_Ends_c fire_Ends
  repeat' first
    | with_reducible apply LeO.bind
    | with_reducible apply fire_agreed_le
    | with_reducible apply fire_ends_le
    | with_reducible apply fire_spots_le
    | with_reducible apply LeO.guard
    | with_reducible apply LeO.ite
    | with_reducible apply LeO.loop
    | with_reducible apply LeO.fold
    | with_reducible exact LeO.refl _
    | (intro (u : Sum _ _); cases u <;> dsimp only)
    | intro _

/-! calx/fire.Clash -/
def fire_Clash_c (fuel : Nat) (p0_f : TFire) : Option (Int × Int × Bool × Int) :=
  ((fire_Check_c fuel p0_f).bind fun y2 => (if (y2 != 0) = true then some (0, 0, false, y2) else ((fire_clash_c fuel p0_f).bind fun y5 => some (y5.1.fID, y5.2.1.fID, y5.2.2, 0))))
theorem fire_Clash_le (fuel : Nat) (p0_f : TFire) : LeO (fire_Clash_c fuel p0_f) (fire_Clash p0_f) := by
  unfold fire_Clash_c fire_Clash
  repeat' first
    | with_reducible apply LeO.bind
    | with_reducible apply fire_Check_le
    | with_reducible apply fire_clash_le
    | with_reducible apply LeO.guard
    | with_reducible apply LeO.ite
    | with_reducible apply LeO.loop
    | with_reducible apply LeO.fold
    | with_reducible exact LeO.refl _
    | (intro (u : Sum _ _); cases u <;> dsimp only)
    | intro _

/-! calx/fire.named -/
def fire_named_r1_c (fuel : Nat) (p1_is : Int → Option Bool) (s19 : (List Int)) (x20 : TLook) : Option ((List Int) ⊕ Unit) :=
  ((p1_is x20.fID).bind fun y23 => (if y23 = true then guardO (s19.length + 1 ≤ 1000000000) (some (.inl (s19 ++ [x20.fID]))) else some (.inl s19)))
theorem fire_named_r1_le (fuel : Nat) (p1_is p1_is' : Int → Option Bool) (hp1_is : ∀ x, LeO (p1_is x) (p1_is' x)) (s19 : (List Int)) (x20 : TLook) : LeO (fire_named_r1_c fuel p1_is s19 x20) (fire_named_r1 p1_is' s19 x20) := by
  unfold fire_named_r1_c fire_named_r1
  repeat' first
    | with_reducible apply LeO.bind
    | with_reducible apply hp1_is
    | with_reducible apply LeO.guard
    | with_reducible apply LeO.ite
    | with_reducible apply LeO.loop
    | with_reducible apply LeO.fold
    | with_reducible exact LeO.refl _
    | (intro (u : Sum _ _); cases u <;> dsimp only)
    | intro _
def fire_named_c (fuel : Nat) (p0_f : TFire) (p1_is : Int → Option Bool) : Option (List Int) :=
  ((fire_sorted_c fuel p0_f).bind fun y4 => (guardO (seqLook_ok y4) ((foldO (fire_named_r1_c fuel p1_is) (seqLook y4) ([] : List Int)).bind fun u21 => match u21 with | .inl u32 => some u32 | .inr _ => none)))
theorem fire_named_le (fuel : Nat) (p0_f : TFire) (p1_is p1_is' : Int → Option Bool) (hp1_is : ∀ x, LeO (p1_is x) (p1_is' x)) : LeO (fire_named_c fuel p0_f p1_is) (fire_named p0_f p1_is') := by
  unfold fire_named_c fire_named
  repeat' first
    | with_reducible apply LeO.bind
    | with_reducible apply hp1_is
    | with_reducible apply fire_named_r1_le
    | with_reducible apply fire_sorted_le
    | with_reducible apply LeO.guard
    | with_reducible apply LeO.ite
    | with_reducible apply LeO.loop
    | with_reducible apply LeO.fold
    | with_reducible exact LeO.refl _
    | (intro (u : Sum _ _); cases u <;> dsimp only)
    | intro _

/-! slices.DeleteFunc[[]calx/api.Look,calx/api.Look] -/
def slices_DeleteFunc_calx_api_Look_calx_api_Look_l1_c (fuel : Nat) (p0_s : (List TLook)) (p1_del : TLook → Option Bool) (s6 : (Int × Int × (List TLook))) : Option ((Int × Int × (List TLook)) ⊕ (Int × Int × (List TLook))) :=
  (if decide (s6.2.1 < ((p0_s.length : Nat) : Int)) = true then guardO ((0 : Int) ≤ s6.2.1 ∧ s6.2.1 < ((p0_s.length : Nat) : Int)) (((p1_del (TLook.mk ((rdL s6.2.2 s6.2.1).fID) (TSpot.mk ((rdL s6.2.2 s6.2.1).fAt.fFoot) ((rdL s6.2.2 s6.2.1).fAt.fHour)) (TSpan.mk ((rdL s6.2.2 s6.2.1).fHeat.fLo) ((rdL s6.2.2 s6.2.1).fHeat.fHi)))).bind fun y11 => (if (!y11) = true then guardO ((0 : Int) ≤ s6.1 ∧ s6.1 < ((p0_s.length : Nat) : Int)) (some (.inl (w64 (s6.1 + 1), w64 (s6.2.1 + 1), (s6.2.2.set (Int.toNat s6.1) (TLook.mk ((rdL s6.2.2 s6.2.1).fID) (TSpot.mk ((rdL s6.2.2 s6.2.1).fAt.fFoot) ((rdL s6.2.2 s6.2.1).fAt.fHour)) (TSpan.mk ((rdL s6.2.2 s6.2.1).fHeat.fLo) ((rdL s6.2.2 s6.2.1).fHeat.fHi))))))) else some (.inl (s6.1, w64 (s6.2.1 + 1), s6.2.2))))) else some (.inr (s6.1, s6.2.1, s6.2.2)))
theorem slices_DeleteFunc_calx_api_Look_calx_api_Look_l1_le (fuel : Nat) (p0_s : (List TLook)) (p1_del p1_del' : TLook → Option Bool) (hp1_del : ∀ x, LeO (p1_del x) (p1_del' x)) (s6 : (Int × Int × (List TLook))) : LeO (slices_DeleteFunc_calx_api_Look_calx_api_Look_l1_c fuel p0_s p1_del s6) (slices_DeleteFunc_calx_api_Look_calx_api_Look_l1 p0_s p1_del' s6) := by
  unfold slices_DeleteFunc_calx_api_Look_calx_api_Look_l1_c slices_DeleteFunc_calx_api_Look_calx_api_Look_l1
  repeat' first
    | with_reducible apply LeO.bind
    | with_reducible apply hp1_del
    | with_reducible apply LeO.guard
    | with_reducible apply LeO.ite
    | with_reducible apply LeO.loop
    | with_reducible apply LeO.fold
    | with_reducible exact LeO.refl _
    | (intro (u : Sum _ _); cases u <;> dsimp only)
    | intro _
def slices_DeleteFunc_calx_api_Look_calx_api_Look_c (fuel : Nat) (p0_s : (List TLook)) (p1_del : TLook → Option Bool) : Option (List TLook) :=
  ((slices_IndexFunc_calx_api_Look_calx_api_Look_c fuel p0_s p1_del).bind fun y1 => (if (y1 == (-1)) = true then some p0_s else ((loopF fuel (slices_DeleteFunc_calx_api_Look_calx_api_Look_l1_c fuel p0_s p1_del) (y1, w64 (y1 + 1), p0_s)).bind fun u7 => guardO ((0 : Int) ≤ u7.1 ∧ u7.1 ≤ ((p0_s.length : Nat) : Int)) (guardO ((0 : Int) ≤ u7.1 ∧ u7.1 ≤ ((p0_s.length : Nat) : Int)) (some (u7.2.2.take (Int.toNat u7.1)))))))
theorem slices_DeleteFunc_calx_api_Look_calx_api_Look_le (fuel : Nat) (p0_s : (List TLook)) (p1_del p1_del' : TLook → Option Bool) (hp1_del : ∀ x, LeO (p1_del x) (p1_del' x)) : LeO (slices_DeleteFunc_calx_api_Look_calx_api_Look_c fuel p0_s p1_del) (slices_DeleteFunc_calx_api_Look_calx_api_Look p0_s p1_del') := by
  unfold slices_DeleteFunc_calx_api_Look_calx_api_Look_c slices_DeleteFunc_calx_api_Look_calx_api_Look
  repeat' first
    | with_reducible apply LeO.bind
    | with_reducible apply hp1_del
    | with_reducible apply slices_DeleteFunc_calx_api_Look_calx_api_Look_l1_le
    | with_reducible apply slices_IndexFunc_calx_api_Look_calx_api_Look_le
    | with_reducible apply LeO.guard
    | with_reducible apply LeO.ite
    | with_reducible apply LeO.loop
    | with_reducible apply LeO.fold
    | with_reducible exact LeO.refl _
    | (intro (u : Sum _ _); cases u <;> dsimp only)
    | intro _

/-! slices.Clone[[]calx/api.Look,calx/api.Look] -/
def slices_Clone_calx_api_Look_calx_api_Look_c (fuel : Nat) (p0_s : (List TLook)) : Option (List TLook) :=
  guardO (0 + p0_s.length ≤ 1000000000) (some (([] : List TLook) ++ p0_s))
theorem slices_Clone_calx_api_Look_calx_api_Look_le (fuel : Nat) (p0_s : (List TLook)) : LeO (slices_Clone_calx_api_Look_calx_api_Look_c fuel p0_s) (slices_Clone_calx_api_Look_calx_api_Look p0_s) := by
  unfold slices_Clone_calx_api_Look_calx_api_Look_c slices_Clone_calx_api_Look_calx_api_Look
  repeat' first
    | with_reducible apply LeO.bind
    | with_reducible apply LeO.guard
    | with_reducible apply LeO.ite
    | with_reducible apply LeO.loop
    | with_reducible apply LeO.fold
    | with_reducible exact LeO.refl _
    | (intro (u : Sum _ _); cases u <;> dsimp only)
    | intro _

/-! calx/fire.without$1 -/
def fire_without_1_c (fuel : Nat) (p0_x : TLook) (cap0 : (List (Int × Bool))) : Option Bool :=
  guardO (rngB p0_x.fID = true) (some (mgetV false cap0 p0_x.fID))
theorem fire_without_1_le (fuel : Nat) (p0_x : TLook) (cap0 : (List (Int × Bool))) : LeO (fire_without_1_c fuel p0_x cap0) (fire_without_1 p0_x cap0) := by
  unfold fire_without_1_c fire_without_1
  repeat' first
    | with_reducible apply LeO.bind
    | with_reducible apply LeO.guard
    | with_reducible apply LeO.ite
    | with_reducible apply LeO.loop
    | with_reducible apply LeO.fold
    | with_reducible exact LeO.refl _
    | (intro (u : Sum _ _); cases u <;> dsimp only)
    | intro _

/-! calx/fire.without -/
def fire_without_l1_c (fuel : Nat) (p1_ids : (List Int)) (s7 : (Int × (List (Int × Bool)))) : Option ((Int × (List (Int × Bool))) ⊕ (Int × (List (Int × Bool)))) :=
  (if decide (s7.1 < ((p1_ids.length : Nat) : Int)) = true then guardO ((0 : Int) ≤ s7.1 ∧ s7.1 < ((p1_ids.length : Nat) : Int)) (guardO (rngB (rdL p1_ids s7.1) = true ∧ List.length s7.2 < 1000000) (some (.inl (w64 (s7.1 + 1), (((rdL p1_ids s7.1), true) :: s7.2))))) else some (.inr (s7.1, s7.2)))
theorem fire_without_l1_le (fuel : Nat) (p1_ids : (List Int)) (s7 : (Int × (List (Int × Bool)))) : LeO (fire_without_l1_c fuel p1_ids s7) (fire_without_l1 p1_ids s7) := by
  unfold fire_without_l1_c fire_without_l1
  repeat' first
    | with_reducible apply LeO.bind
    | with_reducible apply LeO.guard
    | with_reducible apply LeO.ite
    | with_reducible apply LeO.loop
    | with_reducible apply LeO.fold
    | with_reducible exact LeO.refl _
    | (intro (u : Sum _ _); cases u <;> dsimp only)
    | intro _
def fire_without_c (fuel : Nat) (p0_f : TFire) (p1_ids : (List Int)) : Option TFire :=
  ((loopF fuel (fire_without_l1_c fuel p1_ids) (0, [])).bind fun u8 => ((slices_Clone_calx_api_Look_calx_api_Look_c fuel p0_f.fLooks).bind fun y13 => ((slices_DeleteFunc_calx_api_Look_calx_api_Look_c fuel y13 (fun x19 => fire_without_1_c fuel x19 u8.2)).bind fun y20 => some (TFire.mk p0_f.fRise p0_f.fFall p0_f.fUp p0_f.fDown y20))))
theorem fire_without_le (fuel : Nat) (p0_f : TFire) (p1_ids : (List Int)) : LeO (fire_without_c fuel p0_f p1_ids) (fire_without p0_f p1_ids) := by
  unfold fire_without_c fire_without
  repeat' first
    | with_reducible apply LeO.bind
    | with_reducible apply fire_without_1_le
    | with_reducible apply fire_without_l1_le
    | with_reducible apply slices_Clone_calx_api_Look_calx_api_Look_le
    | with_reducible apply slices_DeleteFunc_calx_api_Look_calx_api_Look_le
    | with_reducible apply LeO.guard
    | with_reducible apply LeO.ite
    | with_reducible apply LeO.loop
    | with_reducible apply LeO.fold
    | with_reducible exact LeO.refl _
    | (intro (u : Sum _ _); cases u <;> dsimp only)
    | intro _

/-! calx/fire.Suspects$1 -/
def fire_Suspects_1_c (fuel : Nat) (p0_id : Int) (cap0 : TFire) : Option Bool :=
  ((fire_without_c fuel cap0 [p0_id]).bind fun y2 => ((fire_agree_c fuel y2).bind fun y8 => some y8))
theorem fire_Suspects_1_le (fuel : Nat) (p0_id : Int) (cap0 : TFire) : LeO (fire_Suspects_1_c fuel p0_id cap0) (fire_Suspects_1 p0_id cap0) := by
  unfold fire_Suspects_1_c fire_Suspects_1
  repeat' first
    | with_reducible apply LeO.bind
    | with_reducible apply fire_agree_le
    | with_reducible apply fire_without_le
    | with_reducible apply LeO.guard
    | with_reducible apply LeO.ite
    | with_reducible apply LeO.loop
    | with_reducible apply LeO.fold
    | with_reducible exact LeO.refl _
    | (intro (u : Sum _ _); cases u <;> dsimp only)
    | intro _

/-! calx/fire.Suspects -/
def fire_Suspects_c (fuel : Nat) (p0_f : TFire) : Option ((List Int) × Int) :=
  ((fire_Check_c fuel p0_f).bind fun y2 => ((if (y2 != 0) = true then (some (true)) else ((fire_agree_c fuel p0_f).bind fun y15 => some (y15))).bind fun b5 => (if b5 = true then some ([], y2) else ((fire_named_c fuel p0_f (fun x8 => fire_Suspects_1_c fuel x8 p0_f)).bind fun y9 => some (y9, 0)))))
theorem fire_Suspects_le (fuel : Nat) (p0_f : TFire) : LeO (fire_Suspects_c fuel p0_f) (fire_Suspects p0_f) := by
  unfold fire_Suspects_c fire_Suspects
  repeat' first
    | with_reducible apply LeO.bind
    | with_reducible apply fire_Check_le
    | with_reducible apply fire_Suspects_1_le
    | with_reducible apply fire_agree_le
    | with_reducible apply fire_named_le
    | with_reducible apply LeO.guard
    | with_reducible apply LeO.ite
    | with_reducible apply LeO.loop
    | with_reducible apply LeO.fold
    | with_reducible exact LeO.refl _
    | (intro (u : Sum _ _); cases u <;> dsimp only)
    | intro _

/-! calx/calxref02.SameInts -/
def calxref02_SameInts_l1_c (fuel : Nat) (p0_a : (List Int)) (p1_b : (List Int)) (s3 : (Bool × Int)) : Option ((Bool × Int) ⊕ ((Bool × Int) ⊕ (Bool × Int))) :=
  (if decide (s3.2 < ((p0_a.length : Nat) : Int)) = true then guardO ((0 : Int) ≤ s3.2 ∧ s3.2 < ((p0_a.length : Nat) : Int)) (guardO ((0 : Int) ≤ s3.2 ∧ s3.2 < ((p1_b.length : Nat) : Int)) ((if ((rdL p0_a s3.2) != (rdL p1_b s3.2)) = true then some (.inr (.inl (false, s3.2))) else some (.inl (s3.1, w64 (s3.2 + 1)))))) else some (.inr (.inr (s3.1, s3.2))))
theorem calxref02_SameInts_l1_le (fuel : Nat) (p0_a : (List Int)) (p1_b : (List Int)) (s3 : (Bool × Int)) : LeO (calxref02_SameInts_l1_c fuel p0_a p1_b s3) (calxref02_SameInts_l1 p0_a p1_b s3) := by
  unfold calxref02_SameInts_l1_c calxref02_SameInts_l1
  repeat' first
    | with_reducible apply LeO.bind
    | with_reducible apply LeO.guard
    | with_reducible apply LeO.ite
    | with_reducible apply LeO.loop
    | with_reducible apply LeO.fold
    | with_reducible exact LeO.refl _
    | (intro (u : Sum _ _); cases u <;> dsimp only)
    | intro _
def calxref02_SameInts_c (fuel : Nat) (p0_a : (List Int)) (p1_b : (List Int)) : Option Bool :=
  (if (((p0_a.length : Nat) : Int) != ((p1_b.length : Nat) : Int)) = true then some false else ((loopF fuel (calxref02_SameInts_l1_c fuel p0_a p1_b) (false, 0)).bind fun u4 => match u4 with | (.inl u10) => some u10.1 | (.inr u11) => some true))
theorem calxref02_SameInts_le (fuel : Nat) (p0_a : (List Int)) (p1_b : (List Int)) : LeO (calxref02_SameInts_c fuel p0_a p1_b) (calxref02_SameInts p0_a p1_b) := by
  unfold calxref02_SameInts_c calxref02_SameInts
  repeat' first
    | with_reducible apply LeO.bind
    | with_reducible apply calxref02_SameInts_l1_le
    | with_reducible apply LeO.guard
    | with_reducible apply LeO.ite
    | with_reducible apply LeO.loop
    | with_reducible apply LeO.fold
    | with_reducible exact LeO.refl _
    | (intro (u : Sum _ _); cases u <;> dsimp only)
    | intro _

/-! calx/fire.CheckPath -/
def fire_CheckPath_l1_c (fuel : Nat) (p0_l : (List TSpot)) (s3 : (Int × Int)) : Option ((Int × Int) ⊕ ((Int × Int) ⊕ (Int × Int))) :=
  (if decide (s3.2 < ((p0_l.length : Nat) : Int)) = true then guardO ((0 : Int) ≤ s3.2 ∧ s3.2 < ((p0_l.length : Nat) : Int)) (((fire_right_c fuel (TSpot.mk ((rdL p0_l s3.2).fFoot) ((rdL p0_l s3.2).fHour))).bind fun y8 => ((if (!y8) = true then (some (true)) else ((if decide (0 < s3.2) = true then (guardO ((0 : Int) ≤ w64 (s3.2 - 1) ∧ w64 (s3.2 - 1) < ((p0_l.length : Nat) : Int)) (some ((((rdL p0_l s3.2).fHour) != (w64 (((rdL p0_l (w64 (s3.2 - 1))).fHour) + 1)))))) else (some (false))).bind fun b15 => some (b15))).bind fun b11 => (if b11 = true then some (.inr (.inl (1, s3.2))) else some (.inl (s3.1, w64 (s3.2 + 1))))))) else some (.inr (.inr (s3.1, s3.2))))
theorem fire_CheckPath_l1_le (fuel : Nat) (p0_l : (List TSpot)) (s3 : (Int × Int)) : LeO (fire_CheckPath_l1_c fuel p0_l s3) (fire_CheckPath_l1 p0_l s3) := by
  unfold fire_CheckPath_l1_c fire_CheckPath_l1
  repeat' first
    | with_reducible apply LeO.bind
    | with_reducible apply fire_right_le
    | with_reducible apply LeO.guard
    | with_reducible apply LeO.ite
    | with_reducible apply LeO.loop
    | with_reducible apply LeO.fold
    | with_reducible exact LeO.refl _
    | (intro (u : Sum _ _); cases u <;> dsimp only)
    | intro _
def fire_CheckPath_c (fuel : Nat) (p0_l : (List TSpot)) : Option Int :=
  (if decide (200 < ((p0_l.length : Nat) : Int)) = true then some 2 else ((loopF fuel (fire_CheckPath_l1_c fuel p0_l) (0, 0)).bind fun u4 => match u4 with | (.inl u19) => some u19.1 | (.inr u20) => (if (((p0_l.length : Nat) : Int) == 0) = true then some 1 else some 0)))
theorem fire_CheckPath_le (fuel : Nat) (p0_l : (List TSpot)) : LeO (fire_CheckPath_c fuel p0_l) (fire_CheckPath p0_l) := by
  unfold fire_CheckPath_c fire_CheckPath
  repeat' first
    | with_reducible apply LeO.bind
    | with_reducible apply fire_CheckPath_l1_le
    | with_reducible apply LeO.guard
    | with_reducible apply LeO.ite
    | with_reducible apply LeO.loop
    | with_reducible apply LeO.fold
    | with_reducible exact LeO.refl _
    | (intro (u : Sum _ _); cases u <;> dsimp only)
    | intro _

/-! calx/fire.walked -/
def fire_walked_c (fuel : Nat) (p0_f : TFire) (p1_path : (List TSpot)) (p2_need : Int) : Option Int :=
  ((fire_Check_c fuel p0_f).bind fun y2 => (if (y2 != 0) = true then some y2 else ((fire_CheckPath_c fuel p1_path).bind fun y5 => (if (y5 != 0) = true then some y5 else ((fire_heat_c fuel p2_need).bind fun y8 => (if (!y8) = true then some 1 else ((fire_agreed_c fuel p0_f 0).bind fun y11 => some y11)))))))
theorem fire_walked_le (fuel : Nat) (p0_f : TFire) (p1_path : (List TSpot)) (p2_need : Int) : LeO (fire_walked_c fuel p0_f p1_path p2_need) (fire_walked p0_f p1_path p2_need) := by
  unfold fire_walked_c fire_walked
  repeat' first
    | with_reducible apply LeO.bind
    | with_reducible apply fire_Check_le
    | with_reducible apply fire_CheckPath_le
    | with_reducible apply fire_agreed_le
    | with_reducible apply fire_heat_le
    | with_reducible apply LeO.guard
    | with_reducible apply LeO.ite
    | with_reducible apply LeO.loop
    | with_reducible apply LeO.fold
    | with_reducible exact LeO.refl _
    | (intro (u : Sum _ _); cases u <;> dsimp only)
    | intro _

/-! calx/fire.heats -/
def fire_heats_l1_c (fuel : Nat) (p0_f : TFire) (p1_path : (List TSpot)) (s4 : (Int × (List Int) × (List Int))) : Option ((Int × (List Int) × (List Int)) ⊕ (Int × (List Int) × (List Int))) :=
  (if decide (s4.1 < ((p1_path.length : Nat) : Int)) = true then guardO ((0 : Int) ≤ s4.1 ∧ s4.1 < ((p1_path.length : Nat) : Int)) (((fire_ends_c fuel p0_f (TSpot.mk ((rdL p1_path s4.1).fFoot) ((rdL p1_path s4.1).fHour))).bind fun y9 => guardO (s4.2.1.length + 1 ≤ 1000000000) (guardO (s4.2.2.length + 1 ≤ 1000000000) (some (.inl (w64 (s4.1 + 1), (s4.2.1 ++ [y9.fSpan.fLo]), (s4.2.2 ++ [y9.fSpan.fHi]))))))) else some (.inr (s4.1, s4.2.1, s4.2.2)))
theorem fire_heats_l1_le (fuel : Nat) (p0_f : TFire) (p1_path : (List TSpot)) (s4 : (Int × (List Int) × (List Int))) : LeO (fire_heats_l1_c fuel p0_f p1_path s4) (fire_heats_l1 p0_f p1_path s4) := by
  unfold fire_heats_l1_c fire_heats_l1
  repeat' first
    | with_reducible apply LeO.bind
    | with_reducible apply fire_ends_le
    | with_reducible apply LeO.guard
    | with_reducible apply LeO.ite
    | with_reducible apply LeO.loop
    | with_reducible apply LeO.fold
    | with_reducible exact LeO.refl _
    | (intro (u : Sum _ _); cases u <;> dsimp only)
    | intro _
def fire_heats_c (fuel : Nat) (p0_f : TFire) (p1_path : (List TSpot)) : Option ((List Int) × (List Int)) :=
  ((loopF fuel (fire_heats_l1_c fuel p0_f p1_path) (0, ([] : List Int), ([] : List Int))).bind fun u5 => some (u5.2.1, u5.2.2))
theorem fire_heats_le (fuel : Nat) (p0_f : TFire) (p1_path : (List TSpot)) : LeO (fire_heats_c fuel p0_f p1_path) (fire_heats p0_f p1_path) := by
  unfold fire_heats_c fire_heats
  repeat' first
    | with_reducible apply LeO.bind
    | with_reducible apply fire_heats_l1_le
    | with_reducible apply LeO.guard
    | with_reducible apply LeO.ite
    | with_reducible apply LeO.loop
    | with_reducible apply LeO.fold
    | with_reducible exact LeO.refl _
    | (intro (u : Sum _ _); cases u <;> dsimp only)
    | intro _

/-! calx/fire.burnt -/
def fire_burnt_l1_c (fuel : Nat) (p0_heats : (List Int)) (p1_need : Int) (s5 : (Int × Int × Int × Int × Int)) : Option ((Int × Int × Int × Int × Int) ⊕ (Int × Int × Int × Int × Int)) :=
  (if decide (s5.2.1 < ((p0_heats.length : Nat) : Int)) = true then guardO ((0 : Int) ≤ s5.2.1 ∧ s5.2.1 < ((p0_heats.length : Nat) : Int)) ((if decide ((rdL p0_heats s5.2.1) < p1_need) = true then some (.inl (0, w64 (s5.2.1 + 1), s5.2.2.1, s5.2.2.2.1, s5.2.2.2.2)) else some (.inl (w64 (s5.1 + 1), w64 (s5.2.1 + 1), w64 (s5.2.2.1 + 1), max s5.2.2.2.1 (w64 (s5.1 + 1)), w64 (s5.2.2.2.2 + (w64 ((rdL p0_heats s5.2.1) - p1_need))))))) else some (.inr (s5.1, s5.2.1, s5.2.2.1, s5.2.2.2.1, s5.2.2.2.2)))
theorem fire_burnt_l1_le (fuel : Nat) (p0_heats : (List Int)) (p1_need : Int) (s5 : (Int × Int × Int × Int × Int)) : LeO (fire_burnt_l1_c fuel p0_heats p1_need s5) (fire_burnt_l1 p0_heats p1_need s5) := by
  unfold fire_burnt_l1_c fire_burnt_l1
  repeat' first
    | with_reducible apply LeO.bind
    | with_reducible apply LeO.guard
    | with_reducible apply LeO.ite
    | with_reducible apply LeO.loop
    | with_reducible apply LeO.fold
    | with_reducible exact LeO.refl _
    | (intro (u : Sum _ _); cases u <;> dsimp only)
    | intro _
def fire_burnt_c (fuel : Nat) (p0_heats : (List Int)) (p1_need : Int) : Option TBurn :=
  ((loopF fuel (fire_burnt_l1_c fuel p0_heats p1_need) (0, 0, 0, 0, 0)).bind fun u6 => some (TBurn.mk u6.2.2.1 u6.2.2.2.1 u6.2.2.2.2))
theorem fire_burnt_le (fuel : Nat) (p0_heats : (List Int)) (p1_need : Int) : LeO (fire_burnt_c fuel p0_heats p1_need) (fire_burnt p0_heats p1_need) := by
  unfold fire_burnt_c fire_burnt
  repeat' first
    | with_reducible apply LeO.bind
    | with_reducible apply fire_burnt_l1_le
    | with_reducible apply LeO.guard
    | with_reducible apply LeO.ite
    | with_reducible apply LeO.loop
    | with_reducible apply LeO.fold
    | with_reducible exact LeO.refl _
    | (intro (u : Sum _ _); cases u <;> dsimp only)
    | intro _

/-! calx/fire.Burnt -/
def fire_Burnt_c (fuel : Nat) (p0_f : TFire) (p1_path : (List TSpot)) (p2_need : Int) : Option (TBurn × TBurn × Int) :=
  ((fire_walked_c fuel p0_f p1_path p2_need).bind fun y4 => (if (y4 != 0) = true then some ((TBurn.mk 0 0 0), (TBurn.mk 0 0 0), y4) else ((fire_heats_c fuel p0_f p1_path).bind fun y7 => ((fire_burnt_c fuel y7.1 p2_need).bind fun y17 => ((fire_burnt_c fuel y7.2 p2_need).bind fun y19 => some (y17, y19, 0))))))
theorem fire_Burnt_le (fuel : Nat) (p0_f : TFire) (p1_path : (List TSpot)) (p2_need : Int) : LeO (fire_Burnt_c fuel p0_f p1_path p2_need) (fire_Burnt p0_f p1_path p2_need) := by
  unfold fire_Burnt_c fire_Burnt
  repeat' first
    | with_reducible apply LeO.bind
    | with_reducible apply fire_burnt_le
    | with_reducible apply fire_heats_le
    | with_reducible apply fire_walked_le
    | with_reducible apply LeO.guard
    | with_reducible apply LeO.ite
    | with_reducible apply LeO.loop
    | with_reducible apply LeO.fold
    | with_reducible exact LeO.refl _
    | (intro (u : Sum _ _); cases u <;> dsimp only)
    | intro _

/-! calx/fire.hot -/
def fire_hot_l1_c (fuel : Nat) (p0_heats : (List Int)) (p1_need : Int) (s3 : (Int × (List TSpan))) : Option ((Int × (List TSpan)) ⊕ (Int × (List TSpan))) :=
  (if decide (s3.1 < ((p0_heats.length : Nat) : Int)) = true then guardO ((0 : Int) ≤ s3.1 ∧ s3.1 < ((p0_heats.length : Nat) : Int)) ((if decide ((rdL p0_heats s3.1) < p1_need) = true then some (.inl (w64 (s3.1 + 1), s3.2)) else ((if decide (0 < ((s3.2.length : Nat) : Int)) = true then (guardO ((0 : Int) ≤ w64 (((s3.2.length : Nat) : Int) - 1) ∧ w64 (((s3.2.length : Nat) : Int) - 1) < ((s3.2.length : Nat) : Int)) (some ((((rdL s3.2 (w64 (((s3.2.length : Nat) : Int) - 1))).fHi) == (w64 (s3.1 - 1)))))) else (some (false))).bind fun b9 => (if b9 = true then guardO ((0 : Int) ≤ w64 (((s3.2.length : Nat) : Int) - 1) ∧ w64 (((s3.2.length : Nat) : Int) - 1) < ((s3.2.length : Nat) : Int)) (some (.inl (w64 (s3.1 + 1), (s3.2.set (Int.toNat (w64 (((s3.2.length : Nat) : Int) - 1))) (TSpan.mk ((rdL s3.2 (w64 (((s3.2.length : Nat) : Int) - 1))).fLo) s3.1))))) else guardO (s3.2.length + 1 ≤ 1000000000) (some (.inl (w64 (s3.1 + 1), (s3.2 ++ [(TSpan.mk s3.1 s3.1)])))))))) else some (.inr (s3.1, s3.2)))
theorem fire_hot_l1_le (fuel : Nat) (p0_heats : (List Int)) (p1_need : Int) (s3 : (Int × (List TSpan))) : LeO (fire_hot_l1_c fuel p0_heats p1_need s3) (fire_hot_l1 p0_heats p1_need s3) := by
  unfold fire_hot_l1_c fire_hot_l1
  repeat' first
    | with_reducible apply LeO.bind
    | with_reducible apply LeO.guard
    | with_reducible apply LeO.ite
    | with_reducible apply LeO.loop
    | with_reducible apply LeO.fold
    | with_reducible exact LeO.refl _
    | (intro (u : Sum _ _); cases u <;> dsimp only)
    | intro _
def fire_hot_c (fuel : Nat) (p0_heats : (List Int)) (p1_need : Int) : Option (List TSpan) :=
  ((loopF fuel (fire_hot_l1_c fuel p0_heats p1_need) (0, ([] : List TSpan))).bind fun u4 => some u4.2)
theorem fire_hot_le (fuel : Nat) (p0_heats : (List Int)) (p1_need : Int) : LeO (fire_hot_c fuel p0_heats p1_need) (fire_hot p0_heats p1_need) := by
  unfold fire_hot_c fire_hot
  repeat' first
    | with_reducible apply LeO.bind
    | with_reducible apply fire_hot_l1_le
    | with_reducible apply LeO.guard
    | with_reducible apply LeO.ite
    | with_reducible apply LeO.loop
    | with_reducible apply LeO.fold
    | with_reducible exact LeO.refl _
    | (intro (u : Sum _ _); cases u <;> dsimp only)
    | intro _

/-! calx/fire.Surely -/
def fire_Surely_c (fuel : Nat) (p0_f : TFire) (p1_path : (List TSpot)) (p2_need : Int) : Option ((List TSpan) × Int) :=
  ((fire_walked_c fuel p0_f p1_path p2_need).bind fun y2 => (if (y2 != 0) = true then some ([], y2) else ((fire_heats_c fuel p0_f p1_path).bind fun y5 => ((fire_hot_c fuel y5.1 p2_need).bind fun y15 => some (y15, 0)))))
theorem fire_Surely_le (fuel : Nat) (p0_f : TFire) (p1_path : (List TSpot)) (p2_need : Int) : LeO (fire_Surely_c fuel p0_f p1_path p2_need) (fire_Surely p0_f p1_path p2_need) := by
  unfold fire_Surely_c fire_Surely
  repeat' first
    | with_reducible apply LeO.bind
    | with_reducible apply fire_heats_le
    | with_reducible apply fire_hot_le
    | with_reducible apply fire_walked_le
    | with_reducible apply LeO.guard
    | with_reducible apply LeO.ite
    | with_reducible apply LeO.loop
    | with_reducible apply LeO.fold
    | with_reducible exact LeO.refl _
    | (intro (u : Sum _ _); cases u <;> dsimp only)
    | intro _

/-! calx/fire.Possibly -/
def fire_Possibly_c (fuel : Nat) (p0_f : TFire) (p1_path : (List TSpot)) (p2_need : Int) : Option ((List TSpan) × Int) :=
  ((fire_walked_c fuel p0_f p1_path p2_need).bind fun y2 => (if (y2 != 0) = true then some ([], y2) else ((fire_heats_c fuel p0_f p1_path).bind fun y5 => ((fire_hot_c fuel y5.2 p2_need).bind fun y15 => some (y15, 0)))))
theorem fire_Possibly_le (fuel : Nat) (p0_f : TFire) (p1_path : (List TSpot)) (p2_need : Int) : LeO (fire_Possibly_c fuel p0_f p1_path p2_need) (fire_Possibly p0_f p1_path p2_need) := by
  unfold fire_Possibly_c fire_Possibly
  repeat' first
    | with_reducible apply LeO.bind
    | with_reducible apply fire_heats_le
    | with_reducible apply fire_hot_le
    | with_reducible apply fire_walked_le
    | with_reducible apply LeO.guard
    | with_reducible apply LeO.ite
    | with_reducible apply LeO.loop
    | with_reducible apply LeO.fold
    | with_reducible exact LeO.refl _
    | (intro (u : Sum _ _); cases u <;> dsimp only)
    | intro _

/-! calx/calxref02.SameSpans -/
def calxref02_SameSpans_l1_c (fuel : Nat) (p0_a : (List TSpan)) (p1_b : (List TSpan)) (s3 : (Bool × Int)) : Option ((Bool × Int) ⊕ ((Bool × Int) ⊕ (Bool × Int))) :=
  (if decide (s3.2 < ((p0_a.length : Nat) : Int)) = true then guardO ((0 : Int) ≤ s3.2 ∧ s3.2 < ((p0_a.length : Nat) : Int)) (guardO ((0 : Int) ≤ s3.2 ∧ s3.2 < ((p1_b.length : Nat) : Int)) ((if (!(((rdL p0_a s3.2).fLo == (rdL p1_b s3.2).fLo) && ((rdL p0_a s3.2).fHi == (rdL p1_b s3.2).fHi))) = true then some (.inr (.inl (false, s3.2))) else some (.inl (s3.1, w64 (s3.2 + 1)))))) else some (.inr (.inr (s3.1, s3.2))))
theorem calxref02_SameSpans_l1_le (fuel : Nat) (p0_a : (List TSpan)) (p1_b : (List TSpan)) (s3 : (Bool × Int)) : LeO (calxref02_SameSpans_l1_c fuel p0_a p1_b s3) (calxref02_SameSpans_l1 p0_a p1_b s3) := by
  unfold calxref02_SameSpans_l1_c calxref02_SameSpans_l1
  repeat' first
    | with_reducible apply LeO.bind
    | with_reducible apply LeO.guard
    | with_reducible apply LeO.ite
    | with_reducible apply LeO.loop
    | with_reducible apply LeO.fold
    | with_reducible exact LeO.refl _
    | (intro (u : Sum _ _); cases u <;> dsimp only)
    | intro _
def calxref02_SameSpans_c (fuel : Nat) (p0_a : (List TSpan)) (p1_b : (List TSpan)) : Option Bool :=
  (if (((p0_a.length : Nat) : Int) != ((p1_b.length : Nat) : Int)) = true then some false else ((loopF fuel (calxref02_SameSpans_l1_c fuel p0_a p1_b) (false, 0)).bind fun u4 => match u4 with | (.inl u10) => some u10.1 | (.inr u11) => some true))
theorem calxref02_SameSpans_le (fuel : Nat) (p0_a : (List TSpan)) (p1_b : (List TSpan)) : LeO (calxref02_SameSpans_c fuel p0_a p1_b) (calxref02_SameSpans p0_a p1_b) := by
  unfold calxref02_SameSpans_c calxref02_SameSpans
  repeat' first
    | with_reducible apply LeO.bind
    | with_reducible apply calxref02_SameSpans_l1_le
    | with_reducible apply LeO.guard
    | with_reducible apply LeO.ite
    | with_reducible apply LeO.loop
    | with_reducible apply LeO.fold
    | with_reducible exact LeO.refl _
    | (intro (u : Sum _ _); cases u <;> dsimp only)
    | intro _

/-! calx/fire.Far -/
def fire_Far_c (fuel : Nat) (p0_f : TFire) (p1_from : TSpot) (p2_to : TSpot) : Option (Int × Int) :=
  ((fire_spots_c fuel p0_f [p1_from, p2_to]).bind fun y5 => (if (y5 != 0) = true then some (0, y5) else ((fire_far_c fuel p0_f p1_from p2_to).bind fun y8 => some (y8, 0))))
theorem fire_Far_le (fuel : Nat) (p0_f : TFire) (p1_from : TSpot) (p2_to : TSpot) : LeO (fire_Far_c fuel p0_f p1_from p2_to) (fire_Far p0_f p1_from p2_to) := by
  unfold fire_Far_c fire_Far
  repeat' first
    | with_reducible apply LeO.bind
    | with_reducible apply fire_far_le
    | with_reducible apply fire_spots_le
    | with_reducible apply LeO.guard
    | with_reducible apply LeO.ite
    | with_reducible apply LeO.loop
    | with_reducible apply LeO.fold
    | with_reducible exact LeO.refl _
    | (intro (u : Sum _ _); cases u <;> dsimp only)
    | intro _

/-! calx/fire.Rests$1 -/
def fire_Rests_1_c (fuel : Nat) (p0_id : Int) (cap0 : TFire) (cap1 : TSpot) (cap2 : TSpan) : Option Bool :=
  ((fire_without_c fuel cap0 [p0_id]).bind fun y3 => ((fire_ends_c fuel y3 cap1).bind fun y9 => some (!((y9.fSpan.fLo == cap2.fLo) && (y9.fSpan.fHi == cap2.fHi)))))
theorem fire_Rests_1_le (fuel : Nat) (p0_id : Int) (cap0 : TFire) (cap1 : TSpot) (cap2 : TSpan) : LeO (fire_Rests_1_c fuel p0_id cap0 cap1 cap2) (fire_Rests_1 p0_id cap0 cap1 cap2) := by
  unfold fire_Rests_1_c fire_Rests_1
  repeat' first
    | with_reducible apply LeO.bind
    | with_reducible apply fire_ends_le
    | with_reducible apply fire_without_le
    | with_reducible apply LeO.guard
    | with_reducible apply LeO.ite
    | with_reducible apply LeO.loop
    | with_reducible apply LeO.fold
    | with_reducible exact LeO.refl _
    | (intro (u : Sum _ _); cases u <;> dsimp only)
    | intro _

/-! calx/fire.Rests -/
def fire_Rests_c (fuel : Nat) (p0_f : TFire) (p1_at : TSpot) : Option ((List Int) × Int) :=
  ((fire_spots_c fuel p0_f [p1_at]).bind fun y5 => ((fire_agreed_c fuel p0_f y5).bind fun y7 => (if (y7 != 0) = true then some ([], y7) else ((fire_ends_c fuel p0_f p1_at).bind fun y10 => ((fire_named_c fuel p0_f (fun x13 => fire_Rests_1_c fuel x13 p0_f p1_at y10.fSpan)).bind fun y14 => some (y14, 0))))))
theorem fire_Rests_le (fuel : Nat) (p0_f : TFire) (p1_at : TSpot) : LeO (fire_Rests_c fuel p0_f p1_at) (fire_Rests p0_f p1_at) := by
  unfold fire_Rests_c fire_Rests
  repeat' first
    | with_reducible apply LeO.bind
    | with_reducible apply fire_Rests_1_le
    | with_reducible apply fire_agreed_le
    | with_reducible apply fire_ends_le
    | with_reducible apply fire_named_le
    | with_reducible apply fire_spots_le
    | with_reducible apply LeO.guard
    | with_reducible apply LeO.ite
    | with_reducible apply LeO.loop
    | with_reducible apply LeO.fold
    | with_reducible exact LeO.refl _
    | (intro (u : Sum _ _); cases u <;> dsimp only)
    | intro _

/-! calx/fire.needed -/
def fire_needed_c (fuel : Nat) (p0_f : TFire) (p1_look : TSpot) (p2_at : TSpot) (p3_need : Int) : Option (Int × Bool) :=
  ((fire_ends_c fuel p0_f p1_look).bind fun y4 => ((fire_ends_c fuel p0_f p2_at).bind fun y7 => (if decide (p3_need ≤ y7.fSpan.fLo) = true then some (y4.fSpan.fLo, true) else ((fire_far_c fuel p0_f p2_at p1_look).bind fun y10 => (if decide (y4.fSpan.fHi < max y4.fSpan.fLo (w64 (p3_need + y10))) = true then some (0, false) else some (max y4.fSpan.fLo (w64 (p3_need + y10)), true))))))
theorem fire_needed_le (fuel : Nat) (p0_f : TFire) (p1_look : TSpot) (p2_at : TSpot) (p3_need : Int) : LeO (fire_needed_c fuel p0_f p1_look p2_at p3_need) (fire_needed p0_f p1_look p2_at p3_need) := by
  unfold fire_needed_c fire_needed
  repeat' first
    | with_reducible apply LeO.bind
    | with_reducible apply fire_ends_le
    | with_reducible apply fire_far_le
    | with_reducible apply LeO.guard
    | with_reducible apply LeO.ite
    | with_reducible apply LeO.loop
    | with_reducible apply LeO.fold
    | with_reducible exact LeO.refl _
    | (intro (u : Sum _ _); cases u <;> dsimp only)
    | intro _

/-! calx/fire.Needed -/
def fire_Needed_c (fuel : Nat) (p0_f : TFire) (p1_look : TSpot) (p2_at : TSpot) (p3_need : Int) : Option (Int × Bool × Int) :=
  ((fire_spots_c fuel p0_f [p1_look, p2_at]).bind fun y5 => ((if (y5 == 0) = true then ((fire_heat_c fuel p3_need).bind fun y21 => some ((!y21))) else (some (false))).bind fun b8 => (if b8 = true then ((fire_agreed_c fuel p0_f 1).bind fun y11 => (if (y11 != 0) = true then some (0, false, y11) else ((fire_needed_c fuel p0_f p1_look p2_at p3_need).bind fun y14 => some (y14.1, y14.2, 0)))) else ((fire_agreed_c fuel p0_f y5).bind fun y16 => (if (y16 != 0) = true then some (0, false, y16) else ((fire_needed_c fuel p0_f p1_look p2_at p3_need).bind fun y19 => some (y19.1, y19.2, 0)))))))
theorem fire_Needed_le (fuel : Nat) (p0_f : TFire) (p1_look : TSpot) (p2_at : TSpot) (p3_need : Int) : LeO (fire_Needed_c fuel p0_f p1_look p2_at p3_need) (fire_Needed p0_f p1_look p2_at p3_need) := by
  unfold fire_Needed_c fire_Needed
  repeat' first
    | with_reducible apply LeO.bind
    | with_reducible apply fire_agreed_le
    | with_reducible apply fire_heat_le
    | with_reducible apply fire_needed_le
    | with_reducible apply fire_spots_le
    | with_reducible apply LeO.guard
    | with_reducible apply LeO.ite
    | with_reducible apply LeO.loop
    | with_reducible apply LeO.fold
    | with_reducible exact LeO.refl _
    | (intro (u : Sum _ _); cases u <;> dsimp only)
    | intro _

/-! calx/calxlaw02.Kiln -/
def calxlaw02_Kiln_c (fuel : Nat)  : Option TFire :=
  some (TFire.mk 20 10 5 30 [(TLook.mk 1 (TSpot.mk 10 5) (TSpan.mk 800 900)), (TLook.mk 2 (TSpot.mk 12 8) (TSpan.mk 700 850)), (TLook.mk 3 (TSpot.mk 10 20) (TSpan.mk 950 1000))])
theorem calxlaw02_Kiln_le (fuel : Nat) : LeO (calxlaw02_Kiln_c fuel) (calxlaw02_Kiln) := by
  unfold calxlaw02_Kiln_c calxlaw02_Kiln
  repeat' first
    | with_reducible apply LeO.bind
    | with_reducible apply LeO.guard
    | with_reducible apply LeO.ite
    | with_reducible apply LeO.loop
    | with_reducible apply LeO.fold
    | with_reducible exact LeO.refl _
    | (intro (u : Sum _ _); cases u <;> dsimp only)
    | intro _

/-! calx/calxlaw02.at -/
def calxlaw02_at_c (fuel : Nat) (p0_foot : Int) (p1_hour : Int) : Option TSpot :=
  some (TSpot.mk p0_foot p1_hour)
theorem calxlaw02_at_le (fuel : Nat) (p0_foot : Int) (p1_hour : Int) : LeO (calxlaw02_at_c fuel p0_foot p1_hour) (calxlaw02_at p0_foot p1_hour) := by
  unfold calxlaw02_at_c calxlaw02_at
  repeat' first
    | with_reducible apply LeO.bind
    | with_reducible apply LeO.guard
    | with_reducible apply LeO.ite
    | with_reducible apply LeO.loop
    | with_reducible apply LeO.fold
    | with_reducible exact LeO.refl _
    | (intro (u : Sum _ _); cases u <;> dsimp only)
    | intro _

/-! calx/calxlaw02.sanity -/
def calxlaw02_sanity_c (fuel : Nat)  : Option Bool :=
  ((calxlaw02_Kiln_c fuel).bind fun y1 => ((calxlaw02_at_c fuel 10 5).bind fun y8 => ((calxlaw02_at_c fuel 12 8).bind fun y10 => ((fire_Far_c fuel y1 y8 y10).bind fun y12 => ((calxlaw02_at_c fuel 12 8).bind fun y14 => ((calxlaw02_at_c fuel 10 5).bind fun y16 => ((fire_Far_c fuel y1 y14 y16).bind fun y18 => ((fire_Clash_c fuel y1).bind fun y20 => ((calxlaw02_at_c fuel 10 10).bind fun y23 => ((fire_Ends_c fuel y1 y23).bind fun y25 => ((calxlaw02_at_c fuel 10 15).bind fun y29 => ((fire_Ends_c fuel y1 y29).bind fun y31 => ((calxlaw02_at_c fuel 50 5).bind fun y35 => ((fire_Ends_c fuel y1 y35).bind fun y37 => (if (((((((((y12.2 != 0) || (y12.1 != 70)) || (y18.2 != 0)) || (y18.1 != 90)) || (y20.2.2.2 != 0)) || y20.2.2.1) || (y25.2 != 0)) || (y31.2 != 0)) || (y37.2 != 0)) = true then some false else ((calxlaw02_at_c fuel 10 14).bind fun y51 => ((calxlaw02_at_c fuel 10 15).bind fun y53 => ((calxlaw02_at_c fuel 10 16).bind fun y55 => ((fire_Burnt_c fuel y1 [y51, y53, y55] 900).bind fun y58 => ((fire_Surely_c fuel y1 [y51, y53, y55] 840).bind fun y62 => ((fire_Possibly_c fuel y1 [y51, y53, y55] 1040).bind fun y68 => ((calxlaw02_at_c fuel 10 15).bind fun y75 => ((fire_Rests_c fuel y1 y75).bind fun y77 => ((calxlaw02_at_c fuel 10 12).bind fun y83 => ((calxlaw02_at_c fuel 10 15).bind fun y85 => ((fire_Needed_c fuel y1 y83 y85 900).bind fun y87 => ((calxlaw02_at_c fuel 10 6).bind fun y90 => guardO (y1.fLooks.length + 1 ≤ 1000000000) (((fire_Clash_c fuel (TFire.mk y1.fRise y1.fFall y1.fUp y1.fDown (y1.fLooks ++ [(TLook.mk 4 y90 (TSpan.mk 600 650))]))).bind fun y96 => ((fire_Suspects_c fuel (TFire.mk y1.fRise y1.fFall y1.fUp y1.fDown (y1.fLooks ++ [(TLook.mk 4 y90 (TSpan.mk 600 650))]))).bind fun y98 => ((if ((((y58.2.2 == 0) && ((y58.1.fHours == 0) && ((y58.1.fRow == 0) && (y58.1.fSum == 0)))) && ((y58.2.1.fHours == 3) && ((y58.2.1.fRow == 3) && (y58.2.1.fSum == 420)))) && (y62.2 == 0)) = true then ((calxref02_SameSpans_c fuel y62.1 [(TSpan.mk 1 2)]).bind fun y140 => some (y140)) else (some (false))).bind fun b108 => ((if (b108 && (y68.2 == 0)) = true then ((calxref02_SameSpans_c fuel y68.1 [(TSpan.mk 1 2)]).bind fun y137 => some (y137)) else (some (false))).bind fun b112 => ((if (((((((y25.1.fSpan.fLo == 750) && (y25.1.fSpan.fHi == 950)) && ((y25.1.fLow == 1) && (y25.1.fHigh == 2))) && (((y31.1.fSpan.fLo == 850) && (y31.1.fSpan.fHi == 1050)) && ((y31.1.fLow == 3) && (y31.1.fHigh == 2)))) && (((y37.1.fSpan.fLo == 0) && (y37.1.fSpan.fHi == 1070)) && ((y37.1.fLow == 0) && (y37.1.fHigh == 2)))) && b112) && (y77.2 == 0)) = true then ((calxref02_SameInts_c fuel y77.1 [3]).bind fun y134 => some (y134)) else (some (false))).bind fun b117 => ((if ((((((((b117 && (y87.2.2 == 0)) && y87.2.1) && (y87.1 == 930)) && (y96.2.2.2 == 0)) && y96.2.2.1) && (y96.1 == 4)) && (y96.2.1 == 1)) && (y98.2 == 0)) = true then ((calxref02_SameInts_c fuel y98.1 [4]).bind fun y131 => some (y131)) else (some (false))).bind fun b128 => some b128))))))))))))))))))))))))))))))))))
theorem calxlaw02_sanity_le (fuel : Nat) : LeO (calxlaw02_sanity_c fuel) (calxlaw02_sanity) := by
  unfold calxlaw02_sanity_c calxlaw02_sanity
  repeat' first
    | with_reducible apply LeO.bind
    | with_reducible apply calxlaw02_Kiln_le
    | with_reducible apply calxlaw02_at_le
    | with_reducible apply calxref02_SameInts_le
    | with_reducible apply calxref02_SameSpans_le
    | with_reducible apply fire_Burnt_le
    | with_reducible apply fire_Clash_le
    | with_reducible apply fire_Ends_le
    | with_reducible apply fire_Far_le
    | with_reducible apply fire_Needed_le
    | with_reducible apply fire_Possibly_le
    | with_reducible apply fire_Rests_le
    | with_reducible apply fire_Surely_le
    | with_reducible apply fire_Suspects_le
    | with_reducible apply LeO.guard
    | with_reducible apply LeO.ite
    | with_reducible apply LeO.loop
    | with_reducible apply LeO.fold
    | with_reducible exact LeO.refl _
    | (intro (u : Sum _ _); cases u <;> dsimp only)
    | intro _

end Go.Proofs.Ytndajeiecdmhnaa
