/- What the functions of the translation hand back, as plain functions. No program in sight. -/
import Derived.Test.YtndajeiecdmhnaaGp
import Derived.Test.YtndajeiecdmhnaaGx
import Derived.Test.YtndajeiecdmhnaaG1
set_option linter.unusedVariables false
namespace Go.Proofs.Ytndajeiecdmhnaa
noncomputable section
structure TSpot where
  fFoot : Int
  fHour : Int
  deriving DecidableEq
instance : Inhabited TSpot := ⟨⟨default, default⟩⟩

def TSpot_rg (x : TSpot) : Prop := Rg_i64 x.fFoot ∧ Rg_i64 x.fHour

structure TSpan where
  fLo : Int
  fHi : Int
  deriving DecidableEq
instance : Inhabited TSpan := ⟨⟨default, default⟩⟩

def TSpan_rg (x : TSpan) : Prop := Rg_i64 x.fLo ∧ Rg_i64 x.fHi

structure TLook where
  fID : Int
  fAt : TSpot
  fHeat : TSpan
  deriving DecidableEq
instance : Inhabited TLook := ⟨⟨default, default, default⟩⟩

def TLook_rg (x : TLook) : Prop := Rg_i64 x.fID ∧ Rg_i64 x.fAt.fFoot ∧ Rg_i64 x.fAt.fHour ∧ Rg_i64 x.fHeat.fLo ∧ Rg_i64 x.fHeat.fHi

structure TFire where
  fRise : Int
  fFall : Int
  fUp : Int
  fDown : Int
  fLooks : (List TLook)
  deriving DecidableEq
instance : Inhabited TFire := ⟨⟨default, default, default, default, default⟩⟩

def TFire_rg (x : TFire) : Prop := Rg_i64 x.fRise ∧ Rg_i64 x.fFall ∧ Rg_i64 x.fUp ∧ Rg_i64 x.fDown ∧ (Rg_list TLook_rg x.fLooks)

structure TBounds where
  fSpan : TSpan
  fLow : Int
  fHigh : Int
  deriving DecidableEq
instance : Inhabited TBounds := ⟨⟨default, default, default⟩⟩

def TBounds_rg (x : TBounds) : Prop := Rg_i64 x.fSpan.fLo ∧ Rg_i64 x.fSpan.fHi ∧ Rg_i64 x.fLow ∧ Rg_i64 x.fHigh

structure TBurn where
  fHours : Int
  fRow : Int
  fSum : Int
  deriving DecidableEq
instance : Inhabited TBurn := ⟨⟨default, default, default⟩⟩

def TBurn_rg (x : TBurn) : Prop := Rg_i64 x.fHours ∧ Rg_i64 x.fRow ∧ Rg_i64 x.fSum

structure TBurnings where
  fLeast : TBurn
  fMost : TBurn
  fE : Int
  deriving DecidableEq
instance : Inhabited TBurnings := ⟨⟨default, default, default⟩⟩

def TBurnings_rg (x : TBurnings) : Prop := Rg_i64 x.fLeast.fHours ∧ Rg_i64 x.fLeast.fRow ∧ Rg_i64 x.fLeast.fSum ∧ Rg_i64 x.fMost.fHours ∧ Rg_i64 x.fMost.fRow ∧ Rg_i64 x.fMost.fSum ∧ Rg_i64 x.fE

structure TSpanned where
  fL : (List TSpan)
  fE : Int
  deriving DecidableEq
instance : Inhabited TSpanned := ⟨⟨default, default⟩⟩

def TSpanned_rg (x : TSpanned) : Prop := (Rg_list TSpan_rg x.fL) ∧ Rg_i64 x.fE

structure TPair where
  fA : Int
  fB : Int
  fIs : Bool
  fE : Int
  deriving DecidableEq
instance : Inhabited TPair := ⟨⟨default, default, default, default⟩⟩

def TPair_rg (x : TPair) : Prop := Rg_i64 x.fA ∧ Rg_i64 x.fB ∧ Rg_i64 x.fE

structure TInts where
  fL : (List Int)
  fE : Int
  deriving DecidableEq
instance : Inhabited TInts := ⟨⟨default, default⟩⟩

def TInts_rg (x : TInts) : Prop := (Rg_list Rg_i64 x.fL) ∧ Rg_i64 x.fE

structure TMade where
  fF : TFire
  fE : Int
  deriving DecidableEq
instance : Inhabited TMade := ⟨⟨default, default⟩⟩

def TMade_rg (x : TMade) : Prop := Rg_i64 x.fF.fRise ∧ Rg_i64 x.fF.fFall ∧ Rg_i64 x.fF.fUp ∧ Rg_i64 x.fF.fDown ∧ (Rg_list TLook_rg x.fF.fLooks) ∧ Rg_i64 x.fE

def TSpot_okk (x : TSpot) : Bool := rngB x.fFoot && rngB x.fHour

/-! calx/calxlaw02.few -/
def calxlaw02_few (p0_f : TFire) : Option Bool :=
  some ((decide (((p0_f.fLooks.length : Nat) : Int) ≤ 12)) || ((decide (24 < ((p0_f.fLooks.length : Nat) : Int))) && (decide (((p0_f.fLooks.length : Nat) : Int) ≤ 40))))

/-! calx/fire.within -/
def fire_within (p0_n : Int) (p1_lo : Int) (p2_hi : Int) : Option Bool :=
  some ((decide (p1_lo ≤ p0_n)) && (decide (p0_n ≤ p2_hi)))

/-! calx/fire.right -/
def fire_right (p0_s : TSpot) : Option Bool :=
  ((fire_within p0_s.fFoot 0 60).bind fun y2 => ((if y2 = true then ((fire_within p0_s.fHour 0 16384).bind fun y7 => some (y7)) else (some (false))).bind fun b5 => some b5))

/-! calx/fire.heat -/
def fire_heat (p0_n : Int) : Option Bool :=
  ((fire_within p0_n 0 1500).bind fun y1 => some y1)

/-! calx/fire.rightLook -/
def fire_rightLook (p0_x : TLook) : Option Bool :=
  ((fire_within p0_x.fID 1 1099511627776).bind fun y2 => ((if y2 = true then ((fire_right p0_x.fAt).bind fun y18 => some (y18)) else (some (false))).bind fun b5 => ((if b5 = true then ((fire_heat p0_x.fHeat.fLo).bind fun y16 => some (y16)) else (some (false))).bind fun b8 => ((if b8 = true then ((fire_heat p0_x.fHeat.fHi).bind fun y14 => some (y14)) else (some (false))).bind fun b11 => some (b11 && (decide (p0_x.fHeat.fLo ≤ p0_x.fHeat.fHi)))))))

/-! slices.IndexFunc[[]calx/api.Look,calx/api.Look] -/
def slices_IndexFunc_calx_api_Look_calx_api_Look_l1 (p0_s : (List TLook)) (p1_f : TLook → Option Bool) (s2 : (Int × Int)) : Option ((Int × Int) ⊕ ((Int × Int) ⊕ (Int × Int))) :=
  (if decide (s2.2 < ((p0_s.length : Nat) : Int)) = true then guardO ((0 : Int) ≤ s2.2 ∧ s2.2 < ((p0_s.length : Nat) : Int)) (((p1_f (TLook.mk ((rdL p0_s s2.2).fID) (TSpot.mk ((rdL p0_s s2.2).fAt.fFoot) ((rdL p0_s s2.2).fAt.fHour)) (TSpan.mk ((rdL p0_s s2.2).fHeat.fLo) ((rdL p0_s s2.2).fHeat.fHi)))).bind fun y6 => (if y6 = true then some (.inr (.inl (s2.2, s2.2))) else some (.inl (s2.1, w64 (s2.2 + 1)))))) else some (.inr (.inr (s2.1, s2.2))))
def slices_IndexFunc_calx_api_Look_calx_api_Look (p0_s : (List TLook)) (p1_f : TLook → Option Bool) : Option Int :=
  ((loopO (slices_IndexFunc_calx_api_Look_calx_api_Look_l1 p0_s p1_f) (0, 0)).bind fun u3 => match u3 with | (.inl u10) => some u10.1 | (.inr u11) => some (-1))

/-! calx/fire.find$1 -/
def fire_find_1 (p0_x : TLook) (cap0 : Int) : Option Bool :=
  some (p0_x.fID == cap0)

/-! calx/fire.find -/
def fire_find (p0_l : (List TLook)) (p1_id : Int) : Option Int :=
  ((slices_IndexFunc_calx_api_Look_calx_api_Look p0_l (fun x2 => fire_find_1 x2 p1_id)).bind fun y3 => some y3)

/-! calx/fire.Check -/
def fire_Check_l1 (p0_f : TFire) (s3 : (Int × Int)) : Option ((Int × Int) ⊕ ((Int × Int) ⊕ (Int × Int))) :=
  (if decide (s3.2 < 4) = true then guardO ((0 : Int) ≤ s3.2 ∧ s3.2 < 4) (((fire_within (sel4 p0_f.fRise p0_f.fFall p0_f.fUp p0_f.fDown s3.2) 0 200).bind fun y7 => (if (!y7) = true then some (.inr (.inl (1, s3.2))) else some (.inl (s3.1, w64 (s3.2 + 1)))))) else some (.inr (.inr (s3.1, s3.2))))
def fire_Check_l2 (p0_f : TFire) (s15 : (Int × Int)) : Option ((Int × Int) ⊕ ((Int × Int) ⊕ (Int × Int))) :=
  (if decide (s15.2 < ((p0_f.fLooks.length : Nat) : Int)) = true then guardO ((0 : Int) ≤ s15.2 ∧ s15.2 < ((p0_f.fLooks.length : Nat) : Int)) (((fire_rightLook (TLook.mk ((rdL p0_f.fLooks s15.2).fID) (TSpot.mk ((rdL p0_f.fLooks s15.2).fAt.fFoot) ((rdL p0_f.fLooks s15.2).fAt.fHour)) (TSpan.mk ((rdL p0_f.fLooks s15.2).fHeat.fLo) ((rdL p0_f.fLooks s15.2).fHeat.fHi)))).bind fun y20 => (if (!y20) = true then some (.inr (.inl (1, s15.2))) else ((fire_find p0_f.fLooks ((rdL p0_f.fLooks s15.2).fID)).bind fun y23 => (if decide (y23 < s15.2) = true then some (.inr (.inl (6, s15.2))) else some (.inl (s15.1, w64 (s15.2 + 1)))))))) else some (.inr (.inr (s15.1, s15.2))))
def fire_Check (p0_f : TFire) : Option Int :=
  ((loopO (fire_Check_l1 p0_f) (0, 0)).bind fun u4 => match u4 with | (.inl u11) => some u11.1 | (.inr u12) => (if decide (24 < ((p0_f.fLooks.length : Nat) : Int)) = true then some 2 else ((loopO (fire_Check_l2 p0_f) (u12.1, 0)).bind fun u16 => match u16 with | (.inl u27) => some u27.1 | (.inr u28) => some 0)))

/-! calx/fire.far -/
def fire_far_l1 (p0_f : TFire) (p1_p : TSpot) (p2_q : TSpot) (s6 : (Int × Int)) : Option ((Int × Int) ⊕ (Int × Int)) :=
  (if decide (s6.2 < 4) = true then guardO ((0 : Int) ≤ s6.2 ∧ s6.2 < 4) (guardO ((0 : Int) ≤ s6.2 ∧ s6.2 < 4) (some (.inl (w64 (s6.1 + (w64 ((sel4 p0_f.fRise p0_f.fFall p0_f.fUp p0_f.fDown s6.2) * (max 0 (sel4 (w64 (p2_q.fHour - p1_p.fHour)) (w64 (p1_p.fHour - p2_q.fHour)) (w64 (p2_q.fFoot - p1_p.fFoot)) (w64 (p1_p.fFoot - p2_q.fFoot)) s6.2))))), w64 (s6.2 + 1))))) else some (.inr (s6.1, s6.2)))
def fire_far (p0_f : TFire) (p1_p : TSpot) (p2_q : TSpot) : Option Int :=
  ((loopO (fire_far_l1 p0_f p1_p p2_q) (0, 0)).bind fun u7 => some u7.1)

/-! calx/fire.against -/
def fire_against (p0_f : TFire) (p1_a : TLook) (p2_b : TLook) : Option Bool :=
  ((fire_far p0_f p1_a.fAt p2_b.fAt).bind fun y4 => some (decide (w64 (p1_a.fHeat.fHi + y4) < p2_b.fHeat.fLo)))

/-! slices.Values[[]calx/api.Look,calx/api.Look]$1 -/
def seqLook_ok (xs : List TLook) : Prop := xs.length ≤ 1000
instance (xs : List TLook) : Decidable (seqLook_ok xs) := by unfold seqLook_ok; infer_instance
def seqLook (xs : List TLook) : List TLook := xs


/-! slices.Values[[]calx/api.Look,calx/api.Look] -/
def slices_Values_calx_api_Look_calx_api_Look (p0_s : (List TLook)) : Option Unit :=
  some ()

/-! slices.AppendSeq[[]calx/api.Look,calx/api.Look] -/
def slices_AppendSeq_calx_api_Look_calx_api_Look_r1 (s10 : (List TLook)) (x11 : TLook) : Option ((List TLook) ⊕ Unit) :=
  guardO (s10.length + 1 ≤ 1000000000) (some (.inl (s10 ++ [x11])))
def slices_AppendSeq_calx_api_Look_calx_api_Look (p1_seq : (List TLook)) : Option (List TLook) :=
  (guardO (seqLook_ok p1_seq) ((foldO (slices_AppendSeq_calx_api_Look_calx_api_Look_r1) (seqLook p1_seq) ([] : List TLook)).bind fun u12 => match u12 with | .inl u20 => some u20 | .inr _ => none))

/-! slices.Collect[calx/api.Look] -/
def slices_Collect_calx_api_Look (p0_seq : (List TLook)) : Option (List TLook) :=
  ((slices_AppendSeq_calx_api_Look_calx_api_Look p0_seq).bind fun y1 => some y1)

/-! slices.insertionSortCmpFunc[calx/api.Look] -/
def slices_insertionSortCmpFunc_calx_api_Look_l2 (p0_data : (List TLook)) (p1_a : Int) (p3_cmp : TLook → TLook → Option Int) (s8 : (Int × (List TLook))) : Option ((Int × (List TLook)) ⊕ (Int × (List TLook))) :=
  ((if decide (p1_a < s8.1) = true then (guardO ((0 : Int) ≤ s8.1 ∧ s8.1 < ((p0_data.length : Nat) : Int)) (guardO ((0 : Int) ≤ w64 (s8.1 - 1) ∧ w64 (s8.1 - 1) < ((p0_data.length : Nat) : Int)) (((p3_cmp (TLook.mk ((rdL s8.2 s8.1).fID) (TSpot.mk ((rdL s8.2 s8.1).fAt.fFoot) ((rdL s8.2 s8.1).fAt.fHour)) (TSpan.mk ((rdL s8.2 s8.1).fHeat.fLo) ((rdL s8.2 s8.1).fHeat.fHi))) (TLook.mk ((rdL s8.2 (w64 (s8.1 - 1))).fID) (TSpot.mk ((rdL s8.2 (w64 (s8.1 - 1))).fAt.fFoot) ((rdL s8.2 (w64 (s8.1 - 1))).fAt.fHour)) (TSpan.mk ((rdL s8.2 (w64 (s8.1 - 1))).fHeat.fLo) ((rdL s8.2 (w64 (s8.1 - 1))).fHeat.fHi)))).bind fun y21 => some (decide (y21 < 0)))))) else (some (false))).bind fun b11 => (if b11 = true then guardO ((0 : Int) ≤ w64 (s8.1 - 1) ∧ w64 (s8.1 - 1) < ((p0_data.length : Nat) : Int)) (guardO ((0 : Int) ≤ s8.1 ∧ s8.1 < ((p0_data.length : Nat) : Int)) (guardO ((0 : Int) ≤ s8.1 ∧ s8.1 < ((p0_data.length : Nat) : Int)) (guardO ((0 : Int) ≤ w64 (s8.1 - 1) ∧ w64 (s8.1 - 1) < ((p0_data.length : Nat) : Int)) (some (.inl (w64 (s8.1 - 1), ((s8.2.set (Int.toNat s8.1) (TLook.mk ((rdL s8.2 (w64 (s8.1 - 1))).fID) (TSpot.mk ((rdL s8.2 (w64 (s8.1 - 1))).fAt.fFoot) ((rdL s8.2 (w64 (s8.1 - 1))).fAt.fHour)) (TSpan.mk ((rdL s8.2 (w64 (s8.1 - 1))).fHeat.fLo) ((rdL s8.2 (w64 (s8.1 - 1))).fHeat.fHi)))).set (Int.toNat (w64 (s8.1 - 1))) (TLook.mk ((rdL s8.2 s8.1).fID) (TSpot.mk ((rdL s8.2 s8.1).fAt.fFoot) ((rdL s8.2 s8.1).fAt.fHour)) (TSpan.mk ((rdL s8.2 s8.1).fHeat.fLo) ((rdL s8.2 s8.1).fHeat.fHi)))))))))) else some (.inr (s8.1, s8.2))))
def slices_insertionSortCmpFunc_calx_api_Look_l1 (p0_data : (List TLook)) (p1_a : Int) (p2_b : Int) (p3_cmp : TLook → TLook → Option Int) (s3 : (Int × (List TLook))) : Option ((Int × (List TLook)) ⊕ (Int × (List TLook))) :=
  (if decide (s3.1 < p2_b) = true then ((loopO (slices_insertionSortCmpFunc_calx_api_Look_l2 p0_data p1_a p3_cmp) (s3.1, s3.2)).bind fun u9 => some (.inl (w64 (s3.1 + 1), u9.2))) else some (.inr (s3.1, s3.2)))
def slices_insertionSortCmpFunc_calx_api_Look (p0_data : (List TLook)) (p1_a : Int) (p2_b : Int) (p3_cmp : TLook → TLook → Option Int) : Option (List TLook) :=
  ((loopO (slices_insertionSortCmpFunc_calx_api_Look_l1 p0_data p1_a p2_b p3_cmp) (w64 (p1_a + 1), p0_data)).bind fun u4 => some u4.2)

/-! math/bits.Len64 -/
def lenv (x : Int) : Int := if x < 1 then 0 else if x < 2 then 1 else if x < 4 then 2 else if x < 8 then 3 else 4
def math_bits_Len64 (p0_x : Int) : Option Int := guardO (0 ≤ p0_x ∧ p0_x < 16) (some (w64 (0 + lenv p0_x)))


/-! math/bits.Len -/
def math_bits_Len (p0_x : Int) : Option Int :=
  ((math_bits_Len64 p0_x).bind fun y1 => some y1)

/-! slices.order2CmpFunc[calx/api.Look] -/
def slices_order2CmpFunc_calx_api_Look (p0_data : (List TLook)) (p1_a : Int) (p2_b : Int) (p3_swaps : Int) (p4_cmp : TLook → TLook → Option Int) : Option (Int × Int × Int) :=
  guardO ((0 : Int) ≤ p2_b ∧ p2_b < ((p0_data.length : Nat) : Int)) (guardO ((0 : Int) ≤ p1_a ∧ p1_a < ((p0_data.length : Nat) : Int)) (((p4_cmp (rdL p0_data p2_b) (rdL p0_data p1_a)).bind fun y3 => (if decide (y3 < 0) = true then some (p2_b, p1_a, w64 (p3_swaps + 1)) else some (p1_a, p2_b, p3_swaps)))))

/-! slices.medianCmpFunc[calx/api.Look] -/
def slices_medianCmpFunc_calx_api_Look (p0_data : (List TLook)) (p1_a : Int) (p2_b : Int) (p3_c : Int) (p4_swaps : Int) (p5_cmp : TLook → TLook → Option Int) : Option (Int × Int) :=
  ((slices_order2CmpFunc_calx_api_Look p0_data p1_a p2_b p4_swaps p5_cmp).bind fun y1 => ((slices_order2CmpFunc_calx_api_Look p0_data y1.2.1 p3_c y1.2.2 p5_cmp).bind fun y3 => ((slices_order2CmpFunc_calx_api_Look p0_data y1.1 y3.1 y3.2.2 p5_cmp).bind fun y5 => some (y5.2.1, y5.2.2))))

/-! slices.choosePivotCmpFunc[calx/api.Look] -/
def slices_choosePivotCmpFunc_calx_api_Look (p0_data : (List TLook)) (p1_a : Int) (p2_b : Int) (p3_cmp : TLook → TLook → Option Int) : Option (Int × Int) :=
  (if decide (8 ≤ w64 (p2_b - p1_a)) = true then guardO (decide (50 ≤ w64 (p2_b - p1_a)) = false) (((slices_medianCmpFunc_calx_api_Look p0_data (w64 (p1_a + (w64 ((w64 (Int.tdiv (w64 (p2_b - p1_a)) 4)) * 1)))) (w64 (p1_a + (w64 ((w64 (Int.tdiv (w64 (p2_b - p1_a)) 4)) * 2)))) (w64 (p1_a + (w64 ((w64 (Int.tdiv (w64 (p2_b - p1_a)) 4)) * 3)))) 0 p3_cmp).bind fun y4 => (if (y4.2 == 0) = true then some (y4.1, 1) else (if (y4.2 == 12) = true then some (y4.1, 2) else some (y4.1, 0))))) else (if (0 == 0) = true then some (w64 (p1_a + (w64 ((w64 (Int.tdiv (w64 (p2_b - p1_a)) 4)) * 2))), 1) else (if (0 == 12) = true then some (w64 (p1_a + (w64 ((w64 (Int.tdiv (w64 (p2_b - p1_a)) 4)) * 2))), 2) else some (w64 (p1_a + (w64 ((w64 (Int.tdiv (w64 (p2_b - p1_a)) 4)) * 2))), 0))))

/-! slices.partialInsertionSortCmpFunc[calx/api.Look] -/
def slices_partialInsertionSortCmpFunc_calx_api_Look_l2 (p0 : (List TLook)) (p2 : Int) (p3 : TLook → TLook → Option Int) (s6 : Int) : Option (Int ⊕ Int) :=
  ((if decide (s6 < p2) = true then (guardO ((0 : Int) ≤ s6 ∧ s6 < ((p0.length : Nat) : Int)) (guardO ((0 : Int) ≤ w64 (s6 - 1) ∧ w64 (s6 - 1) < ((p0.length : Nat) : Int)) (((p3 (rdL p0 s6) (rdL p0 (w64 (s6 - 1)))).bind fun y14 => some ((!(decide (y14 < 0)))))))) else (some (false))).bind fun b9 => (if b9 = true then some (.inl (w64 (s6 + 1))) else some (.inr s6)))
def slices_partialInsertionSortCmpFunc_calx_api_Look_l1 (p0 : (List TLook)) (p1 : Int) (p2 : Int) (p3 : TLook → TLook → Option Int) (s2 : (Bool × Int × Int)) : Option ((Bool × Int × Int) ⊕ ((Bool × Int × Int) ⊕ (Bool × Int × Int))) :=
  (if decide (s2.2.2 < 5) = true then ((loopO (slices_partialInsertionSortCmpFunc_calx_api_Look_l2 p0 p2 p3) s2.2.1).bind fun u7 => (if (u7 == p2) = true then some (.inr (.inl (true, u7, s2.2.2))) else guardO (decide (w64 (p2 - p1) < 50) = true) (some (.inr (.inl (false, u7, s2.2.2)))))) else some (.inr (.inr (s2.1, s2.2.1, s2.2.2))))
def slices_partialInsertionSortCmpFunc_calx_api_Look (p0 : (List TLook)) (p1 : Int) (p2 : Int) (p3 : TLook → TLook → Option Int) : Option (Bool × (List TLook)) :=
  ((loopO (slices_partialInsertionSortCmpFunc_calx_api_Look_l1 p0 p1 p2 p3) (false, w64 (p1 + 1), 0)).bind fun u3 => match u3 with | (.inl u20) => some (u20.1, p0) | (.inr u21) => some (false, p0))

/-! slices.partitionCmpFunc[calx/api.Look] -/
def slices_partitionCmpFunc_calx_api_Look_l1 (p0 : (List TLook)) (p1 : Int) (p2 : Int) (p3 : Int) (p4 : TLook → TLook → Option Int) (s6 : Int) : Option (Int ⊕ Int) :=
  ((if decide (s6 ≤ w64 (p2 - 1)) = true then (guardO ((0 : Int) ≤ s6 ∧ s6 < ((p0.length : Nat) : Int)) (guardO ((0 : Int) ≤ p1 ∧ p1 < ((p0.length : Nat) : Int)) (((p4 (rdL ((p0.set (Int.toNat p1) (rdL p0 p3)).set (Int.toNat p3) (rdL p0 p1)) s6) (rdL ((p0.set (Int.toNat p1) (rdL p0 p3)).set (Int.toNat p3) (rdL p0 p1)) p1)).bind fun y14 => some (decide (y14 < 0)))))) else (some (false))).bind fun b9 => (if b9 = true then some (.inl (w64 (s6 + 1))) else some (.inr s6)))
def slices_partitionCmpFunc_calx_api_Look_l2 (p0 : (List TLook)) (p1 : Int) (p3 : Int) (p4 : TLook → TLook → Option Int) (u7 : Int) (s18 : Int) : Option (Int ⊕ Int) :=
  ((if decide (u7 ≤ s18) = true then (guardO ((0 : Int) ≤ s18 ∧ s18 < ((p0.length : Nat) : Int)) (guardO ((0 : Int) ≤ p1 ∧ p1 < ((p0.length : Nat) : Int)) (((p4 (rdL ((p0.set (Int.toNat p1) (rdL p0 p3)).set (Int.toNat p3) (rdL p0 p1)) s18) (rdL ((p0.set (Int.toNat p1) (rdL p0 p3)).set (Int.toNat p3) (rdL p0 p1)) p1)).bind fun y26 => some ((!(decide (y26 < 0)))))))) else (some (false))).bind fun b21 => (if b21 = true then some (.inl (w64 (s18 - 1))) else some (.inr s18)))
def slices_partitionCmpFunc_calx_api_Look_l4 (p0 : (List TLook)) (p1 : Int) (p4 : TLook → TLook → Option Int) (s40 : (Int × Int × (List TLook))) (s43 : Int) : Option (Int ⊕ Int) :=
  ((if decide (s43 ≤ s40.2.1) = true then (guardO ((0 : Int) ≤ s43 ∧ s43 < ((p0.length : Nat) : Int)) (guardO ((0 : Int) ≤ p1 ∧ p1 < ((p0.length : Nat) : Int)) (((p4 (rdL s40.2.2 s43) (rdL s40.2.2 p1)).bind fun y51 => some (decide (y51 < 0)))))) else (some (false))).bind fun b46 => (if b46 = true then some (.inl (w64 (s43 + 1))) else some (.inr s43)))
def slices_partitionCmpFunc_calx_api_Look_l5 (p0 : (List TLook)) (p1 : Int) (p4 : TLook → TLook → Option Int) (s40 : (Int × Int × (List TLook))) (u44 : Int) (s55 : Int) : Option (Int ⊕ Int) :=
  ((if decide (u44 ≤ s55) = true then (guardO ((0 : Int) ≤ s55 ∧ s55 < ((p0.length : Nat) : Int)) (guardO ((0 : Int) ≤ p1 ∧ p1 < ((p0.length : Nat) : Int)) (((p4 (rdL s40.2.2 s55) (rdL s40.2.2 p1)).bind fun y63 => some ((!(decide (y63 < 0)))))))) else (some (false))).bind fun b58 => (if b58 = true then some (.inl (w64 (s55 - 1))) else some (.inr s55)))
def slices_partitionCmpFunc_calx_api_Look_l3 (p0 : (List TLook)) (p1 : Int) (p4 : TLook → TLook → Option Int) (s40 : (Int × Int × (List TLook))) : Option ((Int × Int × (List TLook)) ⊕ (Int × Int × (List TLook))) :=
  ((loopO (slices_partitionCmpFunc_calx_api_Look_l4 p0 p1 p4 s40) s40.1).bind fun u44 => ((loopO (slices_partitionCmpFunc_calx_api_Look_l5 p0 p1 p4 s40 u44) s40.2.1).bind fun u56 => (if decide (u56 < u44) = true then some (.inr (u44, u56, s40.2.2)) else guardO ((0 : Int) ≤ u56 ∧ u56 < ((p0.length : Nat) : Int)) (guardO ((0 : Int) ≤ u44 ∧ u44 < ((p0.length : Nat) : Int)) (guardO ((0 : Int) ≤ u44 ∧ u44 < ((p0.length : Nat) : Int)) (guardO ((0 : Int) ≤ u56 ∧ u56 < ((p0.length : Nat) : Int)) (some (.inl (w64 (u44 + 1), w64 (u56 - 1), ((s40.2.2.set (Int.toNat u44) (rdL s40.2.2 u56)).set (Int.toNat u56) (rdL s40.2.2 u44)))))))))))
def slices_partitionCmpFunc_calx_api_Look (p0 : (List TLook)) (p1 : Int) (p2 : Int) (p3 : Int) (p4 : TLook → TLook → Option Int) : Option (Int × Bool × (List TLook)) :=
  guardO ((0 : Int) ≤ p3 ∧ p3 < ((p0.length : Nat) : Int)) (guardO ((0 : Int) ≤ p1 ∧ p1 < ((p0.length : Nat) : Int)) (guardO ((0 : Int) ≤ p1 ∧ p1 < ((p0.length : Nat) : Int)) (guardO ((0 : Int) ≤ p3 ∧ p3 < ((p0.length : Nat) : Int)) (((loopO (slices_partitionCmpFunc_calx_api_Look_l1 p0 p1 p2 p3 p4) (w64 (p1 + 1))).bind fun u7 => ((loopO (slices_partitionCmpFunc_calx_api_Look_l2 p0 p1 p3 p4 u7) (w64 (p2 - 1))).bind fun u19 => (if decide (u19 < u7) = true then guardO ((0 : Int) ≤ p1 ∧ p1 < ((p0.length : Nat) : Int)) (guardO ((0 : Int) ≤ u19 ∧ u19 < ((p0.length : Nat) : Int)) (guardO ((0 : Int) ≤ u19 ∧ u19 < ((p0.length : Nat) : Int)) (guardO ((0 : Int) ≤ p1 ∧ p1 < ((p0.length : Nat) : Int)) (some (u19, true, ((((p0.set (Int.toNat p1) (rdL p0 p3)).set (Int.toNat p3) (rdL p0 p1)).set (Int.toNat u19) (rdL ((p0.set (Int.toNat p1) (rdL p0 p3)).set (Int.toNat p3) (rdL p0 p1)) p1)).set (Int.toNat p1) (rdL ((p0.set (Int.toNat p1) (rdL p0 p3)).set (Int.toNat p3) (rdL p0 p1)) u19))))))) else guardO ((0 : Int) ≤ u19 ∧ u19 < ((p0.length : Nat) : Int)) (guardO ((0 : Int) ≤ u7 ∧ u7 < ((p0.length : Nat) : Int)) (guardO ((0 : Int) ≤ u7 ∧ u7 < ((p0.length : Nat) : Int)) (guardO ((0 : Int) ≤ u19 ∧ u19 < ((p0.length : Nat) : Int)) (((loopO (slices_partitionCmpFunc_calx_api_Look_l3 p0 p1 p4) (w64 (u7 + 1), w64 (u19 - 1), ((((p0.set (Int.toNat p1) (rdL p0 p3)).set (Int.toNat p3) (rdL p0 p1)).set (Int.toNat u7) (rdL ((p0.set (Int.toNat p1) (rdL p0 p3)).set (Int.toNat p3) (rdL p0 p1)) u19)).set (Int.toNat u19) (rdL ((p0.set (Int.toNat p1) (rdL p0 p3)).set (Int.toNat p3) (rdL p0 p1)) u7)))).bind fun u41 => guardO ((0 : Int) ≤ p1 ∧ p1 < ((p0.length : Nat) : Int)) (guardO ((0 : Int) ≤ u41.2.1 ∧ u41.2.1 < ((p0.length : Nat) : Int)) (guardO ((0 : Int) ≤ u41.2.1 ∧ u41.2.1 < ((p0.length : Nat) : Int)) (guardO ((0 : Int) ≤ p1 ∧ p1 < ((p0.length : Nat) : Int)) (some (u41.2.1, false, ((u41.2.2.set (Int.toNat u41.2.1) (rdL u41.2.2 p1)).set (Int.toNat p1) (rdL u41.2.2 u41.2.1)))))))))))))))))))

/-! slices.pdqsortCmpFunc[calx/api.Look] -/
def slices_pdqsortCmpFunc_calx_api_Look_0_l1 (p4 : TLook → TLook → Option Int) (s3 : (Int × Int × Int × Bool × Bool × (List TLook))) : Option ((Int × Int × Int × Bool × Bool × (List TLook)) ⊕ (Int × Int × Int × Bool × Bool × (List TLook))) :=
  guardO (decide (w64 (s3.2.1 - s3.1) ≤ 12) = true) (((slices_insertionSortCmpFunc_calx_api_Look s3.2.2.2.2.2 s3.1 s3.2.1 p4).bind fun y6 => some (.inr (s3.1, s3.2.1, s3.2.2.1, s3.2.2.2.1, s3.2.2.2.2.1, y6))))
def slices_pdqsortCmpFunc_calx_api_Look_0 (p0 : (List TLook)) (p1 : Int) (p2 : Int) (p3 : Int) (p4 : TLook → TLook → Option Int) : Option (List TLook) :=
  ((loopO (slices_pdqsortCmpFunc_calx_api_Look_0_l1 p4) (p1, p2, p3, true, true, p0)).bind fun u4 => some u4.2.2.2.2.2)

/-! slices.pdqsortCmpFunc[calx/api.Look] -/
def slices_pdqsortCmpFunc_calx_api_Look_l1 (p0 : (List TLook)) (p4 : TLook → TLook → Option Int) (s3 : (Int × Int × Int × Bool × Bool × (List TLook))) : Option ((Int × Int × Int × Bool × Bool × (List TLook)) ⊕ (Int × Int × Int × Bool × Bool × (List TLook))) :=
  (if decide (w64 (s3.2.1 - s3.1) ≤ 12) = true then ((slices_insertionSortCmpFunc_calx_api_Look s3.2.2.2.2.2 s3.1 s3.2.1 p4).bind fun y6 => some (.inr (s3.1, s3.2.1, s3.2.2.1, s3.2.2.2.1, s3.2.2.2.2.1, y6))) else guardO ((s3.2.2.1 == 0) = false) (guardO ((!s3.2.2.2.1) = false) (((slices_choosePivotCmpFunc_calx_api_Look s3.2.2.2.2.2 s3.1 s3.2.1 p4).bind fun y11 => guardO ((y11.2 == 2) = false) ((if ((s3.2.2.2.1 && s3.2.2.2.2.1) && (y11.2 == 1)) = true then ((slices_partialInsertionSortCmpFunc_calx_api_Look s3.2.2.2.2.2 s3.1 s3.2.1 p4).bind fun y17 => (if y17.1 = true then some (.inr (s3.1, s3.2.1, s3.2.2.1, s3.2.2.2.1, s3.2.2.2.2.1, y17.2)) else ((if decide (0 < s3.1) = true then (guardO ((0 : Int) ≤ w64 (s3.1 - 1) ∧ w64 (s3.1 - 1) < ((p0.length : Nat) : Int)) (guardO ((0 : Int) ≤ y11.1 ∧ y11.1 < ((p0.length : Nat) : Int)) (((p4 (rdL y17.2 (w64 (s3.1 - 1))) (rdL y17.2 y11.1)).bind fun y37 => some ((!(decide (y37 < 0)))))))) else (some (false))).bind fun b22 => guardO (b22 = false) (((slices_partitionCmpFunc_calx_api_Look y17.2 s3.1 s3.2.1 y11.1 p4).bind fun y25 => (if decide (w64 (y25.1 - s3.1) < w64 (s3.2.1 - y25.1)) = true then ((slices_pdqsortCmpFunc_calx_api_Look_0 y25.2.2 s3.1 y25.1 s3.2.2.1 p4).bind fun y29 => some (.inl (w64 (y25.1 + 1), s3.2.1, s3.2.2.1, decide (w64 (Int.tdiv (w64 (s3.2.1 - s3.1)) 8) ≤ w64 (y25.1 - s3.1)), y25.2.1, y29))) else ((slices_pdqsortCmpFunc_calx_api_Look_0 y25.2.2 (w64 (y25.1 + 1)) s3.2.1 s3.2.2.1 p4).bind fun y32 => some (.inl (s3.1, y25.1, s3.2.2.1, decide (w64 (Int.tdiv (w64 (s3.2.1 - s3.1)) 8) ≤ w64 (s3.2.1 - y25.1)), y25.2.1, y32))))))))) else ((if decide (0 < s3.1) = true then (guardO ((0 : Int) ≤ w64 (s3.1 - 1) ∧ w64 (s3.1 - 1) < ((p0.length : Nat) : Int)) (guardO ((0 : Int) ≤ y11.1 ∧ y11.1 < ((p0.length : Nat) : Int)) (((p4 (rdL s3.2.2.2.2.2 (w64 (s3.1 - 1))) (rdL s3.2.2.2.2.2 y11.1)).bind fun y55 => some ((!(decide (y55 < 0)))))))) else (some (false))).bind fun b40 => guardO (b40 = false) (((slices_partitionCmpFunc_calx_api_Look s3.2.2.2.2.2 s3.1 s3.2.1 y11.1 p4).bind fun y43 => (if decide (w64 (y43.1 - s3.1) < w64 (s3.2.1 - y43.1)) = true then ((slices_pdqsortCmpFunc_calx_api_Look_0 y43.2.2 s3.1 y43.1 s3.2.2.1 p4).bind fun y47 => some (.inl (w64 (y43.1 + 1), s3.2.1, s3.2.2.1, decide (w64 (Int.tdiv (w64 (s3.2.1 - s3.1)) 8) ≤ w64 (y43.1 - s3.1)), y43.2.1, y47))) else ((slices_pdqsortCmpFunc_calx_api_Look_0 y43.2.2 (w64 (y43.1 + 1)) s3.2.1 s3.2.2.1 p4).bind fun y50 => some (.inl (s3.1, y43.1, s3.2.2.1, decide (w64 (Int.tdiv (w64 (s3.2.1 - s3.1)) 8) ≤ w64 (s3.2.1 - y43.1)), y43.2.1, y50)))))))))))))
def slices_pdqsortCmpFunc_calx_api_Look (p0 : (List TLook)) (p1 : Int) (p2 : Int) (p3 : Int) (p4 : TLook → TLook → Option Int) : Option (List TLook) :=
  ((loopO (slices_pdqsortCmpFunc_calx_api_Look_l1 p0 p4) (p1, p2, p3, true, true, p0)).bind fun u4 => some u4.2.2.2.2.2)

/-! slices.SortFunc[[]calx/api.Look,calx/api.Look] -/
def slices_SortFunc_calx_api_Look_calx_api_Look (p0_x : (List TLook)) (p1_cmp : TLook → TLook → Option Int) : Option (List TLook) :=
  guardO ((0 : Int) ≤ ((p0_x.length : Nat) : Int) ∧ ((p0_x.length : Nat) : Int) ≤ 9223372036854775807) (((math_bits_Len ((p0_x.length : Nat) : Int)).bind fun y2 => ((slices_pdqsortCmpFunc_calx_api_Look p0_x 0 ((p0_x.length : Nat) : Int) y2 p1_cmp).bind fun y4 => some y4)))

/-! slices.SortedFunc[calx/api.Look] -/
def slices_SortedFunc_calx_api_Look (p0_seq : (List TLook)) (p1_cmp : TLook → TLook → Option Int) : Option (List TLook) :=
  ((slices_Collect_calx_api_Look p0_seq).bind fun y1 => ((slices_SortFunc_calx_api_Look_calx_api_Look y1 p1_cmp).bind fun y7 => some y7))

/-! calx/fire.sorted$1 -/
def fire_sorted_1 (p0_a : TLook) (p1_b : TLook) : Option Int :=
  some (w64 (p0_a.fID - p1_b.fID))

/-! calx/fire.sorted -/
def fire_sorted (p0_f : TFire) : Option (List TLook) :=
  ((slices_Values_calx_api_Look_calx_api_Look p0_f.fLooks).bind fun y2 => ((slices_SortedFunc_calx_api_Look p0_f.fLooks (fun x5 x6 => fire_sorted_1 x5 x6)).bind fun y7 => ((slices_Values_calx_api_Look_calx_api_Look y7).bind fun y13 => some y7)))

/-! calx/fire.clash -/
def fire_clash_r2 (p0_f : TFire) (x21 : TLook) (s39 : (Int × Int × Int × Int × Int × Int × Int × Int × Int × Int × Bool)) (x40 : TLook) : Option ((Int × Int × Int × Int × Int × Int × Int × Int × Int × Int × Bool) ⊕ (Int × Int × Int × Int × Int × Int × Int × Int × Int × Int × Bool)) :=
  ((fire_against p0_f x21 x40).bind fun y43 => (if y43 = true then some (.inr (x21.fID, x21.fAt.fFoot, x21.fAt.fHour, x21.fHeat.fLo, x21.fHeat.fHi, x40.fID, x40.fAt.fFoot, x40.fAt.fHour, x40.fHeat.fLo, x40.fHeat.fHi, true)) else some (.inl (s39.1, s39.2.1, s39.2.2.1, s39.2.2.2.1, s39.2.2.2.2.1, s39.2.2.2.2.2.1, s39.2.2.2.2.2.2.1, s39.2.2.2.2.2.2.2.1, s39.2.2.2.2.2.2.2.2.1, s39.2.2.2.2.2.2.2.2.2.1, s39.2.2.2.2.2.2.2.2.2.2))))
def fire_clash_r1 (p0_f : TFire) (s20 : (Int × Int × Int × Int × Int × Int × Int × Int × Int × Int × Bool)) (x21 : TLook) : Option ((Int × Int × Int × Int × Int × Int × Int × Int × Int × Int × Bool) ⊕ (Int × Int × Int × Int × Int × Int × Int × Int × Int × Int × Bool)) :=
  ((fire_sorted p0_f).bind fun y24 => (guardO (seqLook_ok y24) ((foldO (fire_clash_r2 p0_f x21) (seqLook y24) (s20.1, s20.2.1, s20.2.2.1, s20.2.2.2.1, s20.2.2.2.2.1, s20.2.2.2.2.2.1, s20.2.2.2.2.2.2.1, s20.2.2.2.2.2.2.2.1, s20.2.2.2.2.2.2.2.2.1, s20.2.2.2.2.2.2.2.2.2.1, s20.2.2.2.2.2.2.2.2.2.2)).bind fun u41 => match u41 with | .inl u49 => some (.inl (u49.1, u49.2.1, u49.2.2.1, u49.2.2.2.1, u49.2.2.2.2.1, u49.2.2.2.2.2.1, u49.2.2.2.2.2.2.1, u49.2.2.2.2.2.2.2.1, u49.2.2.2.2.2.2.2.2.1, u49.2.2.2.2.2.2.2.2.2.1, u49.2.2.2.2.2.2.2.2.2.2)) | .inr u50 => some (.inr (u50.1, u50.2.1, u50.2.2.1, u50.2.2.2.1, u50.2.2.2.2.1, u50.2.2.2.2.2.1, u50.2.2.2.2.2.2.1, u50.2.2.2.2.2.2.2.1, u50.2.2.2.2.2.2.2.2.1, u50.2.2.2.2.2.2.2.2.2.1, u50.2.2.2.2.2.2.2.2.2.2)))))
def fire_clash (p0_f : TFire) : Option (TLook × TLook × Bool) :=
  ((fire_sorted p0_f).bind fun y5 => (guardO (seqLook_ok y5) ((foldO (fire_clash_r1 p0_f) (seqLook y5) (0, 0, 0, 0, 0, 0, 0, 0, 0, 0, false)).bind fun u22 => match u22 with | .inl u53 => some ((TLook.mk u53.1 (TSpot.mk u53.2.1 u53.2.2.1) (TSpan.mk u53.2.2.2.1 u53.2.2.2.2.1)), (TLook.mk u53.2.2.2.2.2.1 (TSpot.mk u53.2.2.2.2.2.2.1 u53.2.2.2.2.2.2.2.1) (TSpan.mk u53.2.2.2.2.2.2.2.2.1 u53.2.2.2.2.2.2.2.2.2.1)), u53.2.2.2.2.2.2.2.2.2.2) | .inr u55 => some ((TLook.mk u55.1 (TSpot.mk u55.2.1 u55.2.2.1) (TSpan.mk u55.2.2.2.1 u55.2.2.2.2.1)), (TLook.mk u55.2.2.2.2.2.1 (TSpot.mk u55.2.2.2.2.2.2.1 u55.2.2.2.2.2.2.2.1) (TSpan.mk u55.2.2.2.2.2.2.2.2.1 u55.2.2.2.2.2.2.2.2.2.1)), u55.2.2.2.2.2.2.2.2.2.2))))

/-! calx/fire.agree -/
def fire_agree (p0_f : TFire) : Option Bool :=
  ((fire_clash p0_f).bind fun y2 => some (!y2.2.2))

/-! calx/fire.agreed -/
def fire_agreed (p0_f : TFire) (p1_e : Int) : Option Int :=
  ((if (p1_e == 0) = true then ((fire_agree p0_f).bind fun y6 => some ((!y6))) else (some (false))).bind fun b3 => (if b3 = true then some 9 else some p1_e))

/-! slices.IndexFunc[[]calx/api.Spot,calx/api.Spot] -/
def slices_IndexFunc_calx_api_Spot_calx_api_Spot_l1 (p0_s : (List TSpot)) (p1_f : TSpot → Option Bool) (s2 : (Int × Int)) : Option ((Int × Int) ⊕ ((Int × Int) ⊕ (Int × Int))) :=
  (if decide (s2.2 < ((p0_s.length : Nat) : Int)) = true then guardO ((0 : Int) ≤ s2.2 ∧ s2.2 < ((p0_s.length : Nat) : Int)) (((p1_f (TSpot.mk ((rdL p0_s s2.2).fFoot) ((rdL p0_s s2.2).fHour))).bind fun y6 => (if y6 = true then some (.inr (.inl (s2.2, s2.2))) else some (.inl (s2.1, w64 (s2.2 + 1)))))) else some (.inr (.inr (s2.1, s2.2))))
def slices_IndexFunc_calx_api_Spot_calx_api_Spot (p0_s : (List TSpot)) (p1_f : TSpot → Option Bool) : Option Int :=
  ((loopO (slices_IndexFunc_calx_api_Spot_calx_api_Spot_l1 p0_s p1_f) (0, 0)).bind fun u3 => match u3 with | (.inl u10) => some u10.1 | (.inr u11) => some (-1))

/-! slices.ContainsFunc[[]calx/api.Spot,calx/api.Spot] -/
def slices_ContainsFunc_calx_api_Spot_calx_api_Spot (p0_s : (List TSpot)) (p1_f : TSpot → Option Bool) : Option Bool :=
  ((slices_IndexFunc_calx_api_Spot_calx_api_Spot p0_s p1_f).bind fun y1 => some (decide (0 ≤ y1)))

/-! calx/fire.spots$1 -/
def fire_spots_1 (p0_s : TSpot) : Option Bool :=
  ((fire_right p0_s).bind fun y2 => some (!y2))

/-! calx/fire.spots -/
def fire_spots (p0_f : TFire) (p1_l : (List TSpot)) : Option Int :=
  ((fire_Check p0_f).bind fun y2 => (if (y2 != 0) = true then some y2 else ((slices_ContainsFunc_calx_api_Spot_calx_api_Spot p1_l (fun x5 => fire_spots_1 x5)).bind fun y6 => (if y6 = true then some 1 else some 0))))

/-! calx/fire.low$1 -/
def fire_low_1 (p0_x : TLook) (cap0 : TFire) (cap1 : TSpot) : Option Int :=
  ((fire_far cap0 cap1 p0_x.fAt).bind fun y2 => some (w64 (p0_x.fHeat.fLo - y2)))

/-! calx/fire.low -/
def fire_low (p0_f : TFire) (p1_at : TSpot) : Option Unit :=
  some ()

/-! calx/fire.high$1 -/
def fire_high_1 (p0_x : TLook) (cap0 : TFire) (cap1 : TSpot) : Option Int :=
  ((fire_far cap0 p0_x.fAt cap1).bind fun y2 => some (w64 (p0_x.fHeat.fHi + y2)))

/-! calx/fire.high -/
def fire_high (p0_f : TFire) (p1_at : TSpot) : Option Unit :=
  some ()

/-! calx/fire.best[calx/api.Look] -/
def fire_best_calx_api_Look_r1 (p2_tell : TLook → Option Int) (p3_better : Int → Int → Option Bool) (s15 : Int) (x16 : TLook) : Option (Int ⊕ Unit) :=
  ((p2_tell x16).bind fun y19 => ((p3_better y19 s15).bind fun y21 => (if y21 = true then some (.inl y19) else some (.inl s15))))
def fire_best_calx_api_Look_r2 (p2_tell : TLook → Option Int) (u26 : Int) (s35 : (Int × Int × Int × Int × Int × Int × Bool)) (x36 : TLook) : Option ((Int × Int × Int × Int × Int × Int × Bool) ⊕ (Int × Int × Int × Int × Int × Int × Bool)) :=
  ((p2_tell x36).bind fun y39 => (if (y39 == u26) = true then some (.inr (u26, x36.fID, x36.fAt.fFoot, x36.fAt.fHour, x36.fHeat.fLo, x36.fHeat.fHi, true)) else some (.inl (s35.1, s35.2.1, s35.2.2.1, s35.2.2.2.1, s35.2.2.2.2.1, s35.2.2.2.2.2.1, s35.2.2.2.2.2.2))))
def fire_best_calx_api_Look (p0_l : (List TLook)) (p1_none : Int) (p2_tell : TLook → Option Int) (p3_better : Int → Int → Option Bool) : Option (Int × TLook × Bool) :=
  (guardO (seqLook_ok p0_l) ((foldO (fire_best_calx_api_Look_r1 p2_tell p3_better) (seqLook p0_l) p1_none).bind fun u17 => match u17 with | .inl u26 => (guardO (seqLook_ok p0_l) ((foldO (fire_best_calx_api_Look_r2 p2_tell u26) (seqLook p0_l) (0, 0, 0, 0, 0, 0, false)).bind fun u37 => match u37 with | .inl u45 => some (u26, (TLook.mk 0 (TSpot.mk 0 0) (TSpan.mk 0 0)), false) | .inr u48 => some (u48.1, (TLook.mk u48.2.1 (TSpot.mk u48.2.2.1 u48.2.2.2.1) (TSpan.mk u48.2.2.2.2.1 u48.2.2.2.2.2.1)), u48.2.2.2.2.2.2))) | .inr _ => none))

/-! calx/fire.more -/
def fire_more (p0_a : Int) (p1_b : Int) : Option Bool :=
  some (decide (p1_b < p0_a))

/-! calx/fire.less -/
def fire_less (p0_a : Int) (p1_b : Int) : Option Bool :=
  some (decide (p0_a < p1_b))

/-! calx/fire.ends -/
def fire_ends (p0_f : TFire) (p1_at : TSpot) : Option TBounds :=
  ((fire_sorted p0_f).bind fun y6 => ((fire_low p0_f p1_at).bind fun y13 => ((fire_best_calx_api_Look y6 0 (fun x17 => fire_low_1 x17 p0_f p1_at) (fun x18 x19 => fire_more x18 x19)).bind fun y20 => ((fire_sorted p0_f).bind fun y24 => ((fire_high p0_f p1_at).bind fun y31 => ((fire_best_calx_api_Look y24 1500 (fun x35 => fire_high_1 x35 p0_f p1_at) (fun x36 x37 => fire_less x36 x37)).bind fun y38 => some (TBounds.mk (TSpan.mk y20.1 y38.1) y20.2.1.fID y38.2.1.fID)))))))

/-! calx/fire.Ends -/
def fire_Ends (p0_f : TFire) (p1_at : TSpot) : Option (TBounds × Int) :=
  ((fire_spots p0_f [p1_at]).bind fun y6 => ((fire_agreed p0_f y6).bind fun y8 => (if (y8 != 0) = true then some ((TBounds.mk (TSpan.mk 0 0) 0 0), y8) else ((fire_ends p0_f p1_at).bind fun y11 => some (y11, 0)))))

/-! calx/fire.Clash -/
def fire_Clash (p0_f : TFire) : Option (Int × Int × Bool × Int) :=
  ((fire_Check p0_f).bind fun y2 => (if (y2 != 0) = true then some (0, 0, false, y2) else ((fire_clash p0_f).bind fun y5 => some (y5.1.fID, y5.2.1.fID, y5.2.2, 0))))

/-! calx/fire.named -/
def fire_named_r1 (p1_is : Int → Option Bool) (s19 : (List Int)) (x20 : TLook) : Option ((List Int) ⊕ Unit) :=
  ((p1_is x20.fID).bind fun y23 => (if y23 = true then guardO (s19.length + 1 ≤ 1000000000) (some (.inl (s19 ++ [x20.fID]))) else some (.inl s19)))
def fire_named (p0_f : TFire) (p1_is : Int → Option Bool) : Option (List Int) :=
  ((fire_sorted p0_f).bind fun y4 => (guardO (seqLook_ok y4) ((foldO (fire_named_r1 p1_is) (seqLook y4) ([] : List Int)).bind fun u21 => match u21 with | .inl u32 => some u32 | .inr _ => none)))

/-! slices.DeleteFunc[[]calx/api.Look,calx/api.Look] -/
def slices_DeleteFunc_calx_api_Look_calx_api_Look_l1 (p0_s : (List TLook)) (p1_del : TLook → Option Bool) (s6 : (Int × Int × (List TLook))) : Option ((Int × Int × (List TLook)) ⊕ (Int × Int × (List TLook))) :=
  (if decide (s6.2.1 < ((p0_s.length : Nat) : Int)) = true then guardO ((0 : Int) ≤ s6.2.1 ∧ s6.2.1 < ((p0_s.length : Nat) : Int)) (((p1_del (TLook.mk ((rdL s6.2.2 s6.2.1).fID) (TSpot.mk ((rdL s6.2.2 s6.2.1).fAt.fFoot) ((rdL s6.2.2 s6.2.1).fAt.fHour)) (TSpan.mk ((rdL s6.2.2 s6.2.1).fHeat.fLo) ((rdL s6.2.2 s6.2.1).fHeat.fHi)))).bind fun y11 => (if (!y11) = true then guardO ((0 : Int) ≤ s6.1 ∧ s6.1 < ((p0_s.length : Nat) : Int)) (some (.inl (w64 (s6.1 + 1), w64 (s6.2.1 + 1), (s6.2.2.set (Int.toNat s6.1) (TLook.mk ((rdL s6.2.2 s6.2.1).fID) (TSpot.mk ((rdL s6.2.2 s6.2.1).fAt.fFoot) ((rdL s6.2.2 s6.2.1).fAt.fHour)) (TSpan.mk ((rdL s6.2.2 s6.2.1).fHeat.fLo) ((rdL s6.2.2 s6.2.1).fHeat.fHi))))))) else some (.inl (s6.1, w64 (s6.2.1 + 1), s6.2.2))))) else some (.inr (s6.1, s6.2.1, s6.2.2)))
def slices_DeleteFunc_calx_api_Look_calx_api_Look (p0_s : (List TLook)) (p1_del : TLook → Option Bool) : Option (List TLook) :=
  ((slices_IndexFunc_calx_api_Look_calx_api_Look p0_s p1_del).bind fun y1 => (if (y1 == (-1)) = true then some p0_s else ((loopO (slices_DeleteFunc_calx_api_Look_calx_api_Look_l1 p0_s p1_del) (y1, w64 (y1 + 1), p0_s)).bind fun u7 => guardO ((0 : Int) ≤ u7.1 ∧ u7.1 ≤ ((p0_s.length : Nat) : Int)) (guardO ((0 : Int) ≤ u7.1 ∧ u7.1 ≤ ((p0_s.length : Nat) : Int)) (some (u7.2.2.take (Int.toNat u7.1)))))))

/-! slices.Clone[[]calx/api.Look,calx/api.Look] -/
def slices_Clone_calx_api_Look_calx_api_Look (p0_s : (List TLook)) : Option (List TLook) :=
  guardO (0 + p0_s.length ≤ 1000000000) (some (([] : List TLook) ++ p0_s))

/-! calx/fire.without$1 -/
def fire_without_1 (p0_x : TLook) (cap0 : (List (Int × Bool))) : Option Bool :=
  guardO (rngB p0_x.fID = true) (some (mgetV false cap0 p0_x.fID))

/-! calx/fire.without -/
def fire_without_l1 (p1_ids : (List Int)) (s7 : (Int × (List (Int × Bool)))) : Option ((Int × (List (Int × Bool))) ⊕ (Int × (List (Int × Bool)))) :=
  (if decide (s7.1 < ((p1_ids.length : Nat) : Int)) = true then guardO ((0 : Int) ≤ s7.1 ∧ s7.1 < ((p1_ids.length : Nat) : Int)) (guardO (rngB (rdL p1_ids s7.1) = true ∧ List.length s7.2 < 1000000) (some (.inl (w64 (s7.1 + 1), (((rdL p1_ids s7.1), true) :: s7.2))))) else some (.inr (s7.1, s7.2)))
def fire_without (p0_f : TFire) (p1_ids : (List Int)) : Option TFire :=
  ((loopO (fire_without_l1 p1_ids) (0, [])).bind fun u8 => ((slices_Clone_calx_api_Look_calx_api_Look p0_f.fLooks).bind fun y13 => ((slices_DeleteFunc_calx_api_Look_calx_api_Look y13 (fun x19 => fire_without_1 x19 u8.2)).bind fun y20 => some (TFire.mk p0_f.fRise p0_f.fFall p0_f.fUp p0_f.fDown y20))))

/-! calx/fire.Suspects$1 -/
def fire_Suspects_1 (p0_id : Int) (cap0 : TFire) : Option Bool :=
  ((fire_without cap0 [p0_id]).bind fun y2 => ((fire_agree y2).bind fun y8 => some y8))

/-! calx/fire.Suspects -/
def fire_Suspects (p0_f : TFire) : Option ((List Int) × Int) :=
  ((fire_Check p0_f).bind fun y2 => ((if (y2 != 0) = true then (some (true)) else ((fire_agree p0_f).bind fun y15 => some (y15))).bind fun b5 => (if b5 = true then some ([], y2) else ((fire_named p0_f (fun x8 => fire_Suspects_1 x8 p0_f)).bind fun y9 => some (y9, 0)))))

/-! calx/calxref02.SameInts -/
def calxref02_SameInts_l1 (p0_a : (List Int)) (p1_b : (List Int)) (s3 : (Bool × Int)) : Option ((Bool × Int) ⊕ ((Bool × Int) ⊕ (Bool × Int))) :=
  (if decide (s3.2 < ((p0_a.length : Nat) : Int)) = true then guardO ((0 : Int) ≤ s3.2 ∧ s3.2 < ((p0_a.length : Nat) : Int)) (guardO ((0 : Int) ≤ s3.2 ∧ s3.2 < ((p1_b.length : Nat) : Int)) ((if ((rdL p0_a s3.2) != (rdL p1_b s3.2)) = true then some (.inr (.inl (false, s3.2))) else some (.inl (s3.1, w64 (s3.2 + 1)))))) else some (.inr (.inr (s3.1, s3.2))))
def calxref02_SameInts (p0_a : (List Int)) (p1_b : (List Int)) : Option Bool :=
  (if (((p0_a.length : Nat) : Int) != ((p1_b.length : Nat) : Int)) = true then some false else ((loopO (calxref02_SameInts_l1 p0_a p1_b) (false, 0)).bind fun u4 => match u4 with | (.inl u10) => some u10.1 | (.inr u11) => some true))

/-! calx/fire.CheckPath -/
def fire_CheckPath_l1 (p0_l : (List TSpot)) (s3 : (Int × Int)) : Option ((Int × Int) ⊕ ((Int × Int) ⊕ (Int × Int))) :=
  (if decide (s3.2 < ((p0_l.length : Nat) : Int)) = true then guardO ((0 : Int) ≤ s3.2 ∧ s3.2 < ((p0_l.length : Nat) : Int)) (((fire_right (TSpot.mk ((rdL p0_l s3.2).fFoot) ((rdL p0_l s3.2).fHour))).bind fun y8 => ((if (!y8) = true then (some (true)) else ((if decide (0 < s3.2) = true then (guardO ((0 : Int) ≤ w64 (s3.2 - 1) ∧ w64 (s3.2 - 1) < ((p0_l.length : Nat) : Int)) (some ((((rdL p0_l s3.2).fHour) != (w64 (((rdL p0_l (w64 (s3.2 - 1))).fHour) + 1)))))) else (some (false))).bind fun b15 => some (b15))).bind fun b11 => (if b11 = true then some (.inr (.inl (1, s3.2))) else some (.inl (s3.1, w64 (s3.2 + 1))))))) else some (.inr (.inr (s3.1, s3.2))))
def fire_CheckPath (p0_l : (List TSpot)) : Option Int :=
  (if decide (200 < ((p0_l.length : Nat) : Int)) = true then some 2 else ((loopO (fire_CheckPath_l1 p0_l) (0, 0)).bind fun u4 => match u4 with | (.inl u19) => some u19.1 | (.inr u20) => (if (((p0_l.length : Nat) : Int) == 0) = true then some 1 else some 0)))

/-! calx/fire.walked -/
def fire_walked (p0_f : TFire) (p1_path : (List TSpot)) (p2_need : Int) : Option Int :=
  ((fire_Check p0_f).bind fun y2 => (if (y2 != 0) = true then some y2 else ((fire_CheckPath p1_path).bind fun y5 => (if (y5 != 0) = true then some y5 else ((fire_heat p2_need).bind fun y8 => (if (!y8) = true then some 1 else ((fire_agreed p0_f 0).bind fun y11 => some y11)))))))

/-! calx/fire.heats -/
def fire_heats_l1 (p0_f : TFire) (p1_path : (List TSpot)) (s4 : (Int × (List Int) × (List Int))) : Option ((Int × (List Int) × (List Int)) ⊕ (Int × (List Int) × (List Int))) :=
  (if decide (s4.1 < ((p1_path.length : Nat) : Int)) = true then guardO ((0 : Int) ≤ s4.1 ∧ s4.1 < ((p1_path.length : Nat) : Int)) (((fire_ends p0_f (TSpot.mk ((rdL p1_path s4.1).fFoot) ((rdL p1_path s4.1).fHour))).bind fun y9 => guardO (s4.2.1.length + 1 ≤ 1000000000) (guardO (s4.2.2.length + 1 ≤ 1000000000) (some (.inl (w64 (s4.1 + 1), (s4.2.1 ++ [y9.fSpan.fLo]), (s4.2.2 ++ [y9.fSpan.fHi]))))))) else some (.inr (s4.1, s4.2.1, s4.2.2)))
def fire_heats (p0_f : TFire) (p1_path : (List TSpot)) : Option ((List Int) × (List Int)) :=
  ((loopO (fire_heats_l1 p0_f p1_path) (0, ([] : List Int), ([] : List Int))).bind fun u5 => some (u5.2.1, u5.2.2))

/-! calx/fire.burnt -/
def fire_burnt_l1 (p0_heats : (List Int)) (p1_need : Int) (s5 : (Int × Int × Int × Int × Int)) : Option ((Int × Int × Int × Int × Int) ⊕ (Int × Int × Int × Int × Int)) :=
  (if decide (s5.2.1 < ((p0_heats.length : Nat) : Int)) = true then guardO ((0 : Int) ≤ s5.2.1 ∧ s5.2.1 < ((p0_heats.length : Nat) : Int)) ((if decide ((rdL p0_heats s5.2.1) < p1_need) = true then some (.inl (0, w64 (s5.2.1 + 1), s5.2.2.1, s5.2.2.2.1, s5.2.2.2.2)) else some (.inl (w64 (s5.1 + 1), w64 (s5.2.1 + 1), w64 (s5.2.2.1 + 1), max s5.2.2.2.1 (w64 (s5.1 + 1)), w64 (s5.2.2.2.2 + (w64 ((rdL p0_heats s5.2.1) - p1_need))))))) else some (.inr (s5.1, s5.2.1, s5.2.2.1, s5.2.2.2.1, s5.2.2.2.2)))
def fire_burnt (p0_heats : (List Int)) (p1_need : Int) : Option TBurn :=
  ((loopO (fire_burnt_l1 p0_heats p1_need) (0, 0, 0, 0, 0)).bind fun u6 => some (TBurn.mk u6.2.2.1 u6.2.2.2.1 u6.2.2.2.2))

/-! calx/fire.Burnt -/
def fire_Burnt (p0_f : TFire) (p1_path : (List TSpot)) (p2_need : Int) : Option (TBurn × TBurn × Int) :=
  ((fire_walked p0_f p1_path p2_need).bind fun y4 => (if (y4 != 0) = true then some ((TBurn.mk 0 0 0), (TBurn.mk 0 0 0), y4) else ((fire_heats p0_f p1_path).bind fun y7 => ((fire_burnt y7.1 p2_need).bind fun y17 => ((fire_burnt y7.2 p2_need).bind fun y19 => some (y17, y19, 0))))))

/-! calx/fire.hot -/
def fire_hot_l1 (p0_heats : (List Int)) (p1_need : Int) (s3 : (Int × (List TSpan))) : Option ((Int × (List TSpan)) ⊕ (Int × (List TSpan))) :=
  (if decide (s3.1 < ((p0_heats.length : Nat) : Int)) = true then guardO ((0 : Int) ≤ s3.1 ∧ s3.1 < ((p0_heats.length : Nat) : Int)) ((if decide ((rdL p0_heats s3.1) < p1_need) = true then some (.inl (w64 (s3.1 + 1), s3.2)) else ((if decide (0 < ((s3.2.length : Nat) : Int)) = true then (guardO ((0 : Int) ≤ w64 (((s3.2.length : Nat) : Int) - 1) ∧ w64 (((s3.2.length : Nat) : Int) - 1) < ((s3.2.length : Nat) : Int)) (some ((((rdL s3.2 (w64 (((s3.2.length : Nat) : Int) - 1))).fHi) == (w64 (s3.1 - 1)))))) else (some (false))).bind fun b9 => (if b9 = true then guardO ((0 : Int) ≤ w64 (((s3.2.length : Nat) : Int) - 1) ∧ w64 (((s3.2.length : Nat) : Int) - 1) < ((s3.2.length : Nat) : Int)) (some (.inl (w64 (s3.1 + 1), (s3.2.set (Int.toNat (w64 (((s3.2.length : Nat) : Int) - 1))) (TSpan.mk ((rdL s3.2 (w64 (((s3.2.length : Nat) : Int) - 1))).fLo) s3.1))))) else guardO (s3.2.length + 1 ≤ 1000000000) (some (.inl (w64 (s3.1 + 1), (s3.2 ++ [(TSpan.mk s3.1 s3.1)])))))))) else some (.inr (s3.1, s3.2)))
def fire_hot (p0_heats : (List Int)) (p1_need : Int) : Option (List TSpan) :=
  ((loopO (fire_hot_l1 p0_heats p1_need) (0, ([] : List TSpan))).bind fun u4 => some u4.2)

/-! calx/fire.Surely -/
def fire_Surely (p0_f : TFire) (p1_path : (List TSpot)) (p2_need : Int) : Option ((List TSpan) × Int) :=
  ((fire_walked p0_f p1_path p2_need).bind fun y2 => (if (y2 != 0) = true then some ([], y2) else ((fire_heats p0_f p1_path).bind fun y5 => ((fire_hot y5.1 p2_need).bind fun y15 => some (y15, 0)))))

/-! calx/fire.Possibly -/
def fire_Possibly (p0_f : TFire) (p1_path : (List TSpot)) (p2_need : Int) : Option ((List TSpan) × Int) :=
  ((fire_walked p0_f p1_path p2_need).bind fun y2 => (if (y2 != 0) = true then some ([], y2) else ((fire_heats p0_f p1_path).bind fun y5 => ((fire_hot y5.2 p2_need).bind fun y15 => some (y15, 0)))))

/-! calx/calxref02.SameSpans -/
def calxref02_SameSpans_l1 (p0_a : (List TSpan)) (p1_b : (List TSpan)) (s3 : (Bool × Int)) : Option ((Bool × Int) ⊕ ((Bool × Int) ⊕ (Bool × Int))) :=
  (if decide (s3.2 < ((p0_a.length : Nat) : Int)) = true then guardO ((0 : Int) ≤ s3.2 ∧ s3.2 < ((p0_a.length : Nat) : Int)) (guardO ((0 : Int) ≤ s3.2 ∧ s3.2 < ((p1_b.length : Nat) : Int)) ((if (!(((rdL p0_a s3.2).fLo == (rdL p1_b s3.2).fLo) && ((rdL p0_a s3.2).fHi == (rdL p1_b s3.2).fHi))) = true then some (.inr (.inl (false, s3.2))) else some (.inl (s3.1, w64 (s3.2 + 1)))))) else some (.inr (.inr (s3.1, s3.2))))
def calxref02_SameSpans (p0_a : (List TSpan)) (p1_b : (List TSpan)) : Option Bool :=
  (if (((p0_a.length : Nat) : Int) != ((p1_b.length : Nat) : Int)) = true then some false else ((loopO (calxref02_SameSpans_l1 p0_a p1_b) (false, 0)).bind fun u4 => match u4 with | (.inl u10) => some u10.1 | (.inr u11) => some true))

/-! calx/fire.Far -/
def fire_Far (p0_f : TFire) (p1_from : TSpot) (p2_to : TSpot) : Option (Int × Int) :=
  ((fire_spots p0_f [p1_from, p2_to]).bind fun y5 => (if (y5 != 0) = true then some (0, y5) else ((fire_far p0_f p1_from p2_to).bind fun y8 => some (y8, 0))))

/-! calx/fire.Rests$1 -/
def fire_Rests_1 (p0_id : Int) (cap0 : TFire) (cap1 : TSpot) (cap2 : TSpan) : Option Bool :=
  ((fire_without cap0 [p0_id]).bind fun y3 => ((fire_ends y3 cap1).bind fun y9 => some (!((y9.fSpan.fLo == cap2.fLo) && (y9.fSpan.fHi == cap2.fHi)))))

/-! calx/fire.Rests -/
def fire_Rests (p0_f : TFire) (p1_at : TSpot) : Option ((List Int) × Int) :=
  ((fire_spots p0_f [p1_at]).bind fun y5 => ((fire_agreed p0_f y5).bind fun y7 => (if (y7 != 0) = true then some ([], y7) else ((fire_ends p0_f p1_at).bind fun y10 => ((fire_named p0_f (fun x13 => fire_Rests_1 x13 p0_f p1_at y10.fSpan)).bind fun y14 => some (y14, 0))))))

/-! calx/fire.needed -/
def fire_needed (p0_f : TFire) (p1_look : TSpot) (p2_at : TSpot) (p3_need : Int) : Option (Int × Bool) :=
  ((fire_ends p0_f p1_look).bind fun y4 => ((fire_ends p0_f p2_at).bind fun y7 => (if decide (p3_need ≤ y7.fSpan.fLo) = true then some (y4.fSpan.fLo, true) else ((fire_far p0_f p2_at p1_look).bind fun y10 => (if decide (y4.fSpan.fHi < max y4.fSpan.fLo (w64 (p3_need + y10))) = true then some (0, false) else some (max y4.fSpan.fLo (w64 (p3_need + y10)), true))))))

/-! calx/fire.Needed -/
def fire_Needed (p0_f : TFire) (p1_look : TSpot) (p2_at : TSpot) (p3_need : Int) : Option (Int × Bool × Int) :=
  ((fire_spots p0_f [p1_look, p2_at]).bind fun y5 => ((if (y5 == 0) = true then ((fire_heat p3_need).bind fun y21 => some ((!y21))) else (some (false))).bind fun b8 => (if b8 = true then ((fire_agreed p0_f 1).bind fun y11 => (if (y11 != 0) = true then some (0, false, y11) else ((fire_needed p0_f p1_look p2_at p3_need).bind fun y14 => some (y14.1, y14.2, 0)))) else ((fire_agreed p0_f y5).bind fun y16 => (if (y16 != 0) = true then some (0, false, y16) else ((fire_needed p0_f p1_look p2_at p3_need).bind fun y19 => some (y19.1, y19.2, 0)))))))

/-! calx/calxlaw02.Kiln -/
def calxlaw02_Kiln  : Option TFire :=
  some (TFire.mk 20 10 5 30 [(TLook.mk 1 (TSpot.mk 10 5) (TSpan.mk 800 900)), (TLook.mk 2 (TSpot.mk 12 8) (TSpan.mk 700 850)), (TLook.mk 3 (TSpot.mk 10 20) (TSpan.mk 950 1000))])

/-! calx/calxlaw02.at -/
def calxlaw02_at (p0_foot : Int) (p1_hour : Int) : Option TSpot :=
  some (TSpot.mk p0_foot p1_hour)

/-! calx/calxlaw02.sanity -/
def calxlaw02_sanity  : Option Bool :=
  ((calxlaw02_Kiln).bind fun y1 => ((calxlaw02_at 10 5).bind fun y8 => ((calxlaw02_at 12 8).bind fun y10 => ((fire_Far y1 y8 y10).bind fun y12 => ((calxlaw02_at 12 8).bind fun y14 => ((calxlaw02_at 10 5).bind fun y16 => ((fire_Far y1 y14 y16).bind fun y18 => ((fire_Clash y1).bind fun y20 => ((calxlaw02_at 10 10).bind fun y23 => ((fire_Ends y1 y23).bind fun y25 => ((calxlaw02_at 10 15).bind fun y29 => ((fire_Ends y1 y29).bind fun y31 => ((calxlaw02_at 50 5).bind fun y35 => ((fire_Ends y1 y35).bind fun y37 => (if (((((((((y12.2 != 0) || (y12.1 != 70)) || (y18.2 != 0)) || (y18.1 != 90)) || (y20.2.2.2 != 0)) || y20.2.2.1) || (y25.2 != 0)) || (y31.2 != 0)) || (y37.2 != 0)) = true then some false else ((calxlaw02_at 10 14).bind fun y51 => ((calxlaw02_at 10 15).bind fun y53 => ((calxlaw02_at 10 16).bind fun y55 => ((fire_Burnt y1 [y51, y53, y55] 900).bind fun y58 => ((fire_Surely y1 [y51, y53, y55] 840).bind fun y62 => ((fire_Possibly y1 [y51, y53, y55] 1040).bind fun y68 => ((calxlaw02_at 10 15).bind fun y75 => ((fire_Rests y1 y75).bind fun y77 => ((calxlaw02_at 10 12).bind fun y83 => ((calxlaw02_at 10 15).bind fun y85 => ((fire_Needed y1 y83 y85 900).bind fun y87 => ((calxlaw02_at 10 6).bind fun y90 => guardO (y1.fLooks.length + 1 ≤ 1000000000) (((fire_Clash (TFire.mk y1.fRise y1.fFall y1.fUp y1.fDown (y1.fLooks ++ [(TLook.mk 4 y90 (TSpan.mk 600 650))]))).bind fun y96 => ((fire_Suspects (TFire.mk y1.fRise y1.fFall y1.fUp y1.fDown (y1.fLooks ++ [(TLook.mk 4 y90 (TSpan.mk 600 650))]))).bind fun y98 => ((if ((((y58.2.2 == 0) && ((y58.1.fHours == 0) && ((y58.1.fRow == 0) && (y58.1.fSum == 0)))) && ((y58.2.1.fHours == 3) && ((y58.2.1.fRow == 3) && (y58.2.1.fSum == 420)))) && (y62.2 == 0)) = true then ((calxref02_SameSpans y62.1 [(TSpan.mk 1 2)]).bind fun y140 => some (y140)) else (some (false))).bind fun b108 => ((if (b108 && (y68.2 == 0)) = true then ((calxref02_SameSpans y68.1 [(TSpan.mk 1 2)]).bind fun y137 => some (y137)) else (some (false))).bind fun b112 => ((if (((((((y25.1.fSpan.fLo == 750) && (y25.1.fSpan.fHi == 950)) && ((y25.1.fLow == 1) && (y25.1.fHigh == 2))) && (((y31.1.fSpan.fLo == 850) && (y31.1.fSpan.fHi == 1050)) && ((y31.1.fLow == 3) && (y31.1.fHigh == 2)))) && (((y37.1.fSpan.fLo == 0) && (y37.1.fSpan.fHi == 1070)) && ((y37.1.fLow == 0) && (y37.1.fHigh == 2)))) && b112) && (y77.2 == 0)) = true then ((calxref02_SameInts y77.1 [3]).bind fun y134 => some (y134)) else (some (false))).bind fun b117 => ((if ((((((((b117 && (y87.2.2 == 0)) && y87.2.1) && (y87.1 == 930)) && (y96.2.2.2 == 0)) && y96.2.2.1) && (y96.1 == 4)) && (y96.2.1 == 1)) && (y98.2 == 0)) = true then ((calxref02_SameInts y98.1 [4]).bind fun y131 => some (y131)) else (some (false))).bind fun b128 => some b128))))))))))))))))))))))))))))))))))

/-! calx/fire.with -/
def fire_with (p0_f : TFire) (p1_x : TLook) : Option TFire :=
  ((slices_Clone_calx_api_Look_calx_api_Look p0_f.fLooks).bind fun y5 => guardO (y5.length + 1 ≤ 1000000000) (some (TFire.mk p0_f.fRise p0_f.fFall p0_f.fUp p0_f.fDown (y5 ++ [p1_x]))))

/-! calx/fire.Would -/
def fire_Would (p0_f : TFire) (p1_x : TLook) (p2_at : TSpot) : Option (TBounds × Int) :=
  ((fire_spots p0_f [p2_at]).bind fun y6 => (if (y6 != 0) = true then some ((TBounds.mk (TSpan.mk 0 0) 0 0), y6) else ((fire_with p0_f p1_x).bind fun y9 => ((fire_Check y9).bind fun y15 => ((fire_agreed y9 y15).bind fun y17 => (if (y17 != 0) = true then some ((TBounds.mk (TSpan.mk 0 0) 0 0), y17) else ((fire_ends y9 p2_at).bind fun y20 => some (y20, 0))))))))

/-! calx/fire.listed -/
def fire_listed (p0_f : TFire) (p1_l : (List TSpot)) : Option Int :=
  ((fire_Check p0_f).bind fun y2 => (if (y2 != 0) = true then some y2 else (if decide (24 < ((p1_l.length : Nat) : Int)) = true then some 2 else ((fire_spots p0_f p1_l).bind fun y6 => some y6))))

/-! calx/fire.Decides -/
def fire_Decides_l1 (p0 : TFire) (p1 : (List TSpot)) (p2 : TSpot) (p3 : Int) (s14 : (Int × (List Int))) : Option ((Int × (List Int)) ⊕ (Int × (List Int))) :=
  (if decide (s14.1 < ((p1.length : Nat) : Int)) = true then guardO ((0 : Int) ≤ s14.1 ∧ s14.1 < ((p1.length : Nat) : Int)) (((fire_ends p0 (TSpot.mk ((rdL p1 s14.1).fFoot) ((rdL p1 s14.1).fHour))).bind fun y19 => ((fire_needed p0 (TSpot.mk ((rdL p1 s14.1).fFoot) ((rdL p1 s14.1).fHour)) p2 p3).bind fun y21 => ((if (y21.2 && (decide (y19.fSpan.fLo < y21.1))) = true then ((fire_ends p0 p2).bind fun y32 => ((fire_far p0 (TSpot.mk ((rdL p1 s14.1).fFoot) ((rdL p1 s14.1).fHour)) p2).bind fun y34 => some (decide (min y32.fSpan.fHi (w64 (y19.fSpan.fLo + y34)) < p3)))) else (some (false))).bind fun b25 => (if b25 = true then guardO (s14.2.length + 1 ≤ 1000000000) (some (.inl (w64 (s14.1 + 1), (s14.2 ++ [s14.1])))) else some (.inl (w64 (s14.1 + 1), s14.2))))))) else some (.inr (s14.1, s14.2)))
def fire_Decides_l2 (p0 : TFire) (p1 : (List TSpot)) (p2 : TSpot) (p3 : Int) (s42 : (Int × (List Int))) : Option ((Int × (List Int)) ⊕ (Int × (List Int))) :=
  (if decide (s42.1 < ((p1.length : Nat) : Int)) = true then guardO ((0 : Int) ≤ s42.1 ∧ s42.1 < ((p1.length : Nat) : Int)) (((fire_ends p0 (TSpot.mk ((rdL p1 s42.1).fFoot) ((rdL p1 s42.1).fHour))).bind fun y47 => ((fire_needed p0 (TSpot.mk ((rdL p1 s42.1).fFoot) ((rdL p1 s42.1).fHour)) p2 p3).bind fun y49 => ((if (y49.2 && (decide (y47.fSpan.fLo < y49.1))) = true then ((fire_ends p0 p2).bind fun y60 => ((fire_far p0 (TSpot.mk ((rdL p1 s42.1).fFoot) ((rdL p1 s42.1).fHour)) p2).bind fun y62 => some (decide (min y60.fSpan.fHi (w64 (y47.fSpan.fLo + y62)) < p3)))) else (some (false))).bind fun b53 => (if b53 = true then guardO (s42.2.length + 1 ≤ 1000000000) (some (.inl (w64 (s42.1 + 1), (s42.2 ++ [s42.1])))) else some (.inl (w64 (s42.1 + 1), s42.2))))))) else some (.inr (s42.1, s42.2)))
def fire_Decides (p0 : TFire) (p1 : (List TSpot)) (p2 : TSpot) (p3 : Int) : Option ((List Int) × Int) :=
  ((fire_listed p0 p1).bind fun y3 => ((if (y3 == 0) = true then ((fire_right p2).bind fun y65 => ((if (!y65) = true then (some (true)) else ((fire_heat p3).bind fun y70 => some ((!y70)))).bind fun b68 => some (b68))) else (some (false))).bind fun b6 => (if b6 = true then ((fire_agreed p0 1).bind fun y9 => (if (y9 != 0) = true then some ([], y9) else ((loopO (fire_Decides_l1 p0 p1 p2 p3) (0, ([] : List Int))).bind fun u15 => some (u15.2, 0)))) else ((fire_agreed p0 y3).bind fun y37 => (if (y37 != 0) = true then some ([], y37) else ((loopO (fire_Decides_l2 p0 p1 p2 p3) (0, ([] : List Int))).bind fun u43 => some (u43.2, 0)))))))

/-! calx/calxlaw02.FireDecides -/
def calxlaw02_FireDecides (p0 : TFire) (p1 : TSpot) (p2 : TSpot) (p3 : Int) (p4 : Int) : Option Bool :=
  ((calxlaw02_few p0).bind fun y4 => (if ((!y4) || (decide (24 ≤ ((p0.fLooks.length : Nat) : Int)))) = true then ((calxlaw02_sanity).bind fun y8 => some y8) else ((fire_Needed p0 p2 p1 p3).bind fun y10 => ((fire_Decides p0 [p2] p1 p3).bind fun y13 => (if (y10.2.2 != y13.2) = true then some false else (if (y10.2.2 != 0) = true then ((calxlaw02_sanity).bind fun y21 => some y21) else ((fire_Ends p0 p2).bind fun y23 => (if ((y23.2 != 0) || ((decide (0 < ((y13.1.length : Nat) : Int))) && (!y10.2.1))) = true then some false else (if y10.2.1 = true then ((fire_Would p0 (TLook.mk p4 p2 (TSpan.mk y10.1 y23.1.fSpan.fHi)) p1).bind fun y29 => (if (y29.2 != 0) = true then ((calxlaw02_sanity).bind fun y33 => some (y33 && ((y29.2 == 1) || (y29.2 == 6)))) else (if (((decide (y10.1 < y23.1.fSpan.fLo)) || (decide (y23.1.fSpan.fHi < y10.1))) || (decide (y29.1.fSpan.fLo < p3))) = true then some false else (if decide (y23.1.fSpan.fLo < y10.1) = true then ((fire_Would p0 (TLook.mk p4 p2 (TSpan.mk (w64 (y10.1 - 1)) y23.1.fSpan.fHi)) p1).bind fun y41 => (if ((y41.2 != 0) || (decide (p3 ≤ y41.1.fSpan.fLo))) = true then some false else (if (((y13.1.length : Nat) : Int) == 0) = true then ((calxlaw02_sanity).bind fun y47 => some y47) else ((fire_Would p0 (TLook.mk p4 p2 (TSpan.mk y23.1.fSpan.fLo y23.1.fSpan.fLo)) p1).bind fun y49 => ((calxlaw02_sanity).bind fun y52 => ((if (y52 && (((y13.1.length : Nat) : Int) == 1)) = true then (guardO ((0 : Int) ≤ 0 ∧ 0 < ((y13.1.length : Nat) : Int)) (some (((rdL y13.1 0) == 0)))) else (some (false))).bind fun b56 => some (((b56 && (decide (y23.1.fSpan.fLo < y10.1))) && (y49.2 == 0)) && (decide (y49.1.fSpan.fHi < p3))))))))) else (if (((y13.1.length : Nat) : Int) == 0) = true then ((calxlaw02_sanity).bind fun y63 => some y63) else ((fire_Would p0 (TLook.mk p4 p2 (TSpan.mk y23.1.fSpan.fLo y23.1.fSpan.fLo)) p1).bind fun y65 => ((calxlaw02_sanity).bind fun y68 => ((if (y68 && (((y13.1.length : Nat) : Int) == 1)) = true then (guardO ((0 : Int) ≤ 0 ∧ 0 < ((y13.1.length : Nat) : Int)) (some (((rdL y13.1 0) == 0)))) else (some (false))).bind fun b72 => some (((b72 && (decide (y23.1.fSpan.fLo < y10.1))) && (y65.2 == 0)) && (decide (y65.1.fSpan.fHi < p3))))))))))) else (if (((y13.1.length : Nat) : Int) == 0) = true then ((calxlaw02_sanity).bind fun y79 => some y79) else ((fire_Would p0 (TLook.mk p4 p2 (TSpan.mk y23.1.fSpan.fLo y23.1.fSpan.fLo)) p1).bind fun y81 => ((calxlaw02_sanity).bind fun y84 => ((if (y84 && (((y13.1.length : Nat) : Int) == 1)) = true then (guardO ((0 : Int) ≤ 0 ∧ 0 < ((y13.1.length : Nat) : Int)) (some (((rdL y13.1 0) == 0)))) else (some (false))).bind fun b88 => some (((b88 && (decide (y23.1.fSpan.fLo < y10.1))) && (y81.2 == 0)) && (decide (y81.1.fSpan.fHi < p3))))))))))))))))

end
end Go.Proofs.Ytndajeiecdmhnaa
