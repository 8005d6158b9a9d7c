import Derived.Test.YtbblpokfbmekfaaGreatP
set_option maxRecDepth 100000
set_option maxHeartbeats 4000000
set_option linter.unusedVariables false
namespace Go.Proofs.YtbblpokfbmekfaaGreat
def slices_IndexFunc_Node_Node_l1_c (f:Nat) (p0:(List TN)) (p1:TN → Option Bool) (s2:(Int × Int)) : Option ((Int × Int) ⊕ ((Int × Int) ⊕ (Int × Int))) :=
 (if decide (s2.2 < (p0.length:Int)) = true then guardO ((0:Int) ≤ s2.2 ∧ s2.2 < (p0.length:Int)) (((p1 (TN.mk ((rdL p0 s2.2).fID) ((rdL p0 s2.2).fLevel) ((rdL p0 s2.2).fCost))).bind fun y6 => (if y6 = true then some (.inr (.inl (s2.2,s2.2))) else some (.inl (s2.1,w64 (s2.2 + 1)))))) else some (.inr (.inr (s2.1,s2.2))))
theorem slices_IndexFunc_Node_Node_l1_le (f:Nat) (p0:(List TN)) (p1 p1' : TN → Option Bool) (hp1_f:∀ x,LeO (p1 x) (p1' x)) (s2:(Int × Int)) : LeO (slices_IndexFunc_Node_Node_l1_c f p0 p1 s2) (slices_IndexFunc_Node_Node_l1 p0 p1' s2):=by
 unfold slices_IndexFunc_Node_Node_l1_c slices_IndexFunc_Node_Node_l1
 repeat' first
  | with_reducible first | apply LeO.bind | apply hp1_f | apply LeO.guard | apply LeO.ite | apply LeO.loop | apply LeO.fold | exact LeO.refl _
  | (intro (u:Sum _ _); cases u <;> dsimp only)
  | intro _
def slices_IndexFunc_Node_Node_c (f:Nat) (p0:(List TN)) (p1:TN → Option Bool) : Option Int :=
 ((loopF f (slices_IndexFunc_Node_Node_l1_c f p0 p1) (0,0)).bind fun u3 => match u3 with | (.inl u10) => some u10.1 | (.inr u11) => some (-1))
theorem slices_IndexFunc_Node_Node_le (f:Nat) (p0:(List TN)) (p1 p1' : TN → Option Bool) (hp1_f:∀ x,LeO (p1 x) (p1' x)) : LeO (slices_IndexFunc_Node_Node_c f p0 p1) (slices_IndexFunc_Node_Node p0 p1'):=by
 unfold slices_IndexFunc_Node_Node_c slices_IndexFunc_Node_Node
 repeat' first
  | with_reducible first | apply LeO.bind | apply hp1_f | apply slices_IndexFunc_Node_Node_l1_le | apply LeO.guard | apply LeO.ite | apply LeO.loop | apply LeO.fold | exact LeO.refl _
  | (intro (u:Sum _ _); cases u <;> dsimp only)
  | intro _
def recall_nodeOf_1_c (f:Nat) (p0:TN) (cap0:Int) : Option Bool :=
 some (p0.fID == cap0)
theorem recall_nodeOf_1_le (f:Nat) (p0:TN) (cap0:Int) : LeO (recall_nodeOf_1_c f p0 cap0) (recall_nodeOf_1 p0 cap0):=by
 unfold recall_nodeOf_1_c recall_nodeOf_1
 repeat' first
  | with_reducible first | apply LeO.bind | apply LeO.guard | apply LeO.ite | apply LeO.loop | apply LeO.fold | exact LeO.refl _
  | (intro (u:Sum _ _); cases u <;> dsimp only)
  | intro _
def recall_nodeOf_c (f:Nat) (p0:TL) (p1:Int) : Option Int :=
 ((slices_IndexFunc_Node_Node_c f p0.fNo (fun x3 => recall_nodeOf_1_c f x3 p1)).bind fun y4 => some y4)
theorem recall_nodeOf_le (f:Nat) (p0:TL) (p1:Int) : LeO (recall_nodeOf_c f p0 p1) (recall_nodeOf p0 p1):=by
 unfold recall_nodeOf_c recall_nodeOf
 repeat' first
  | with_reducible first | apply LeO.bind | apply recall_nodeOf_1_le | apply slices_IndexFunc_Node_Node_le | apply LeO.guard | apply LeO.ite | apply LeO.loop | apply LeO.fold | exact LeO.refl _
  | (intro (u:Sum _ _); cases u <;> dsimp only)
  | intro _
def slices_IndexFunc_Claim_Claim_l1_c (f:Nat) (p0:(List TC)) (p1:TC → Option Bool) (s2:(Int × Int)) : Option ((Int × Int) ⊕ ((Int × Int) ⊕ (Int × Int))) :=
 (if decide (s2.2 < (p0.length:Int)) = true then guardO ((0:Int) ≤ s2.2 ∧ s2.2 < (p0.length:Int)) (((p1 (TC.mk ((rdL p0 s2.2).fID) ((rdL p0 s2.2).fO))).bind fun y6 => (if y6 = true then some (.inr (.inl (s2.2,s2.2))) else some (.inl (s2.1,w64 (s2.2 + 1)))))) else some (.inr (.inr (s2.1,s2.2))))
theorem slices_IndexFunc_Claim_Claim_l1_le (f:Nat) (p0:(List TC)) (p1 p1' : TC → Option Bool) (hp1_f:∀ x,LeO (p1 x) (p1' x)) (s2:(Int × Int)) : LeO (slices_IndexFunc_Claim_Claim_l1_c f p0 p1 s2) (slices_IndexFunc_Claim_Claim_l1 p0 p1' s2):=by
 unfold slices_IndexFunc_Claim_Claim_l1_c slices_IndexFunc_Claim_Claim_l1
 repeat' first
  | with_reducible first | apply LeO.bind | apply hp1_f | apply LeO.guard | apply LeO.ite | apply LeO.loop | apply LeO.fold | exact LeO.refl _
  | (intro (u:Sum _ _); cases u <;> dsimp only)
  | intro _
def slices_IndexFunc_Claim_Claim_c (f:Nat) (p0:(List TC)) (p1:TC → Option Bool) : Option Int :=
 ((loopF f (slices_IndexFunc_Claim_Claim_l1_c f p0 p1) (0,0)).bind fun u3 => match u3 with | (.inl u10) => some u10.1 | (.inr u11) => some (-1))
theorem slices_IndexFunc_Claim_Claim_le (f:Nat) (p0:(List TC)) (p1 p1' : TC → Option Bool) (hp1_f:∀ x,LeO (p1 x) (p1' x)) : LeO (slices_IndexFunc_Claim_Claim_c f p0 p1) (slices_IndexFunc_Claim_Claim p0 p1'):=by
 unfold slices_IndexFunc_Claim_Claim_c slices_IndexFunc_Claim_Claim
 repeat' first
  | with_reducible first | apply LeO.bind | apply hp1_f | apply slices_IndexFunc_Claim_Claim_l1_le | apply LeO.guard | apply LeO.ite | apply LeO.loop | apply LeO.fold | exact LeO.refl _
  | (intro (u:Sum _ _); cases u <;> dsimp only)
  | intro _
def recall_linkOf_1_c (f:Nat) (p0:TC) (cap0:Int) : Option Bool :=
 some (p0.fID == cap0)
theorem recall_linkOf_1_le (f:Nat) (p0:TC) (cap0:Int) : LeO (recall_linkOf_1_c f p0 cap0) (recall_linkOf_1 p0 cap0):=by
 unfold recall_linkOf_1_c recall_linkOf_1
 repeat' first
  | with_reducible first | apply LeO.bind | apply LeO.guard | apply LeO.ite | apply LeO.loop | apply LeO.fold | exact LeO.refl _
  | (intro (u:Sum _ _); cases u <;> dsimp only)
  | intro _
def recall_linkOf_c (f:Nat) (p0:TL) (p1:Int) : Option Int :=
 ((slices_IndexFunc_Claim_Claim_c f p0.fC (fun x3 => recall_linkOf_1_c f x3 p1)).bind fun y4 => some y4)
theorem recall_linkOf_le (f:Nat) (p0:TL) (p1:Int) : LeO (recall_linkOf_c f p0 p1) (recall_linkOf p0 p1):=by
 unfold recall_linkOf_c recall_linkOf
 repeat' first
  | with_reducible first | apply LeO.bind | apply recall_linkOf_1_le | apply slices_IndexFunc_Claim_Claim_le | apply LeO.guard | apply LeO.ite | apply LeO.loop | apply LeO.fold | exact LeO.refl _
  | (intro (u:Sum _ _); cases u <;> dsimp only)
  | intro _
def recall_within_c (f:Nat) (p0:Int) (p1:Int) (p2:Int) : Option Bool :=
 some ((decide (p1 ≤ p0)) && (decide (p0 ≤ p2)))
theorem recall_within_le (f:Nat) (p0:Int) (p1:Int) (p2:Int) : LeO (recall_within_c f p0 p1 p2) (recall_within p0 p1 p2):=by
 unfold recall_within_c recall_within
 repeat' first
  | with_reducible first | apply LeO.bind | apply LeO.guard | apply LeO.ite | apply LeO.loop | apply LeO.fold | exact LeO.refl _
  | (intro (u:Sum _ _); cases u <;> dsimp only)
  | intro _
def slices_Index_Hop_Hop_l1_c (f:Nat) (p0:(List TH)) (p1:TH) (s3:(Int × Int)) : Option ((Int × Int) ⊕ ((Int × Int) ⊕ (Int × Int))) :=
 (if decide (s3.2 < (p0.length:Int)) = true then guardO ((0:Int) ≤ s3.2 ∧ s3.2 < (p0.length:Int)) ((if ((p1.fFrom == (rdL p0 s3.2).fFrom) && (p1.fTo == (rdL p0 s3.2).fTo)) = true then some (.inr (.inl (s3.2,s3.2))) else some (.inl (s3.1,w64 (s3.2 + 1))))) else some (.inr (.inr (s3.1,s3.2))))
theorem slices_Index_Hop_Hop_l1_le (f:Nat) (p0:(List TH)) (p1:TH) (s3:(Int × Int)) : LeO (slices_Index_Hop_Hop_l1_c f p0 p1 s3) (slices_Index_Hop_Hop_l1 p0 p1 s3):=by
 unfold slices_Index_Hop_Hop_l1_c slices_Index_Hop_Hop_l1
 repeat' first
  | with_reducible first | apply LeO.bind | apply LeO.guard | apply LeO.ite | apply LeO.loop | apply LeO.fold | exact LeO.refl _
  | (intro (u:Sum _ _); cases u <;> dsimp only)
  | intro _
def slices_Index_Hop_Hop_c (f:Nat) (p0:(List TH)) (p1:TH) : Option Int :=
 ((loopF f (slices_Index_Hop_Hop_l1_c f p0 p1) (0,0)).bind fun u4 => match u4 with | (.inl u9) => some u9.1 | (.inr u10) => some (-1))
theorem slices_Index_Hop_Hop_le (f:Nat) (p0:(List TH)) (p1:TH) : LeO (slices_Index_Hop_Hop_c f p0 p1) (slices_Index_Hop_Hop p0 p1):=by
 unfold slices_Index_Hop_Hop_c slices_Index_Hop_Hop
 repeat' first
  | with_reducible first | apply LeO.bind | apply slices_Index_Hop_Hop_l1_le | apply LeO.guard | apply LeO.ite | apply LeO.loop | apply LeO.fold | exact LeO.refl _
  | (intro (u:Sum _ _); cases u <;> dsimp only)
  | intro _
def slices_Contains_Hop_Hop_c (f:Nat) (p0:(List TH)) (p1:TH) : Option Bool :=
 ((slices_Index_Hop_Hop_c f p0 p1).bind fun y2 => some (decide (0 ≤ y2)))
theorem slices_Contains_Hop_Hop_le (f:Nat) (p0:(List TH)) (p1:TH) : LeO (slices_Contains_Hop_Hop_c f p0 p1) (slices_Contains_Hop_Hop p0 p1):=by
 unfold slices_Contains_Hop_Hop_c slices_Contains_Hop_Hop
 repeat' first
  | with_reducible first | apply LeO.bind | apply slices_Index_Hop_Hop_le | apply LeO.guard | apply LeO.ite | apply LeO.loop | apply LeO.fold | exact LeO.refl _
  | (intro (u:Sum _ _); cases u <;> dsimp only)
  | intro _
def recall_options_l1_c (f:Nat) (p0:TL) (p1:(List TH)) (s6:(Bool × Int)) : Option ((Bool × Int) ⊕ ((Bool × Int) ⊕ (Bool × Int))) :=
 (if decide (s6.2 < (p1.length:Int)) = true then guardO ((0:Int) ≤ s6.2 ∧ s6.2 < (p1.length:Int)) (((recall_nodeOf_c f p0 ((rdL p1 s6.2).fFrom)).bind fun y11 => ((recall_nodeOf_c f p0 ((rdL p1 s6.2).fTo)).bind fun y13 => ((if ((decide (y11 < 0)) || (decide (y13 < 0))) = true then (some (true)) else (guardO ((0:Int) ≤ y11 ∧ y11 < (p0.fNo.length:Int)) (guardO ((0:Int) ≤ y13 ∧ y13 < (p0.fNo.length:Int)) (some (decide ((rdL p0.fNo y13).fLevel ≤ (rdL p0.fNo y11).fLevel)))))).bind fun b17 => ((if b17 = true then (some (true)) else (guardO ((0:Int) ≤ s6.2 ∧ s6.2 ≤ (p1.length:Int)) (((slices_Contains_Hop_Hop_c f (p1.take (Int.toNat s6.2)) (TH.mk ((rdL p1 s6.2).fFrom) ((rdL p1 s6.2).fTo))).bind fun y24 => some (y24))))).bind fun b20 => (if b20 = true then some (.inr (.inl (false,s6.2))) else some (.inl (s6.1,w64 (s6.2 + 1))))))))) else some (.inr (.inr (s6.1,s6.2))))
theorem recall_options_l1_le (f:Nat) (p0:TL) (p1:(List TH)) (s6:(Bool × Int)) : LeO (recall_options_l1_c f p0 p1 s6) (recall_options_l1 p0 p1 s6):=by
 unfold recall_options_l1_c recall_options_l1
 repeat' first
  | with_reducible first | apply LeO.bind | apply recall_nodeOf_le | apply slices_Contains_Hop_Hop_le | apply LeO.guard | apply LeO.ite | apply LeO.loop | apply LeO.fold | exact LeO.refl _
  | (intro (u:Sum _ _); cases u <;> dsimp only)
  | intro _
def recall_options_c (f:Nat) (p0:TL) (p1:(List TH)) : Option Bool :=
 ((recall_within_c f (p1.length:Int) 1 4).bind fun y2 => (if (!y2) = true then some false else ((loopF f (recall_options_l1_c f p0 p1) (false,0)).bind fun u7 => match u7 with | (.inl u29) => some u29.1 | (.inr u30) => some true)))
theorem recall_options_le (f:Nat) (p0:TL) (p1:(List TH)) : LeO (recall_options_c f p0 p1) (recall_options p0 p1):=by
 unfold recall_options_c recall_options
 repeat' first
  | with_reducible first | apply LeO.bind | apply recall_options_l1_le | apply recall_within_le | apply LeO.guard | apply LeO.ite | apply LeO.loop | apply LeO.fold | exact LeO.refl _
  | (intro (u:Sum _ _); cases u <;> dsimp only)
  | intro _
def recall_Check_l1_c (f:Nat) (p0:TL) (s5:(Int × Int)) : Option ((Int × Int) ⊕ ((Int × Int) ⊕ (Int × Int))) :=
 (if decide (s5.2 < (p0.fNo.length:Int)) = true then guardO ((0:Int) ≤ s5.2 ∧ s5.2 < (p0.fNo.length:Int)) (((recall_within_c f ((rdL p0.fNo s5.2).fID) 1 1099511627776).bind fun y10 => ((if (!y10) = true then (some (true)) else ((recall_within_c f ((rdL p0.fNo s5.2).fLevel) 0 9).bind fun y24 => some ((!y24)))).bind fun b13 => ((if b13 = true then (some (true)) else ((recall_within_c f ((rdL p0.fNo s5.2).fCost) 0 1073741824).bind fun y22 => some ((!y22)))).bind fun b16 => (if b16 = true then some (.inr (.inl (1,s5.2))) else ((recall_nodeOf_c f p0 ((rdL p0.fNo s5.2).fID)).bind fun y19 => (if decide (y19 < s5.2) = true then some (.inr (.inl (6,s5.2))) else some (.inl (s5.1,w64 (s5.2 + 1)))))))))) else some (.inr (.inr (s5.1,s5.2))))
theorem recall_Check_l1_le (f:Nat) (p0:TL) (s5:(Int × Int)) : LeO (recall_Check_l1_c f p0 s5) (recall_Check_l1 p0 s5):=by
 unfold recall_Check_l1_c recall_Check_l1
 repeat' first
  | with_reducible first | apply LeO.bind | apply recall_nodeOf_le | apply recall_within_le | apply LeO.guard | apply LeO.ite | apply LeO.loop | apply LeO.fold | exact LeO.refl _
  | (intro (u:Sum _ _); cases u <;> dsimp only)
  | intro _
def recall_Check_l2_c (f:Nat) (p0:TL) (s30:(Int × Int × Int)) : Option ((Int × Int × Int) ⊕ ((Int × Int × Int) ⊕ (Int × Int × Int))) :=
 (if decide (s30.2.2 < (p0.fC.length:Int)) = true then guardO ((0:Int) ≤ s30.2.2 ∧ s30.2.2 < (p0.fC.length:Int)) (((recall_within_c f ((rdL p0.fC s30.2.2).fID) 1 1099511627776).bind fun y35 => ((if (!y35) = true then (some (true)) else ((recall_options_c f p0 ((rdL p0.fC s30.2.2).fO)).bind fun y44 => some ((!y44)))).bind fun b38 => (if b38 = true then some (.inr (.inl (1,s30.2.1,s30.2.2))) else ((recall_linkOf_c f p0 ((rdL p0.fC s30.2.2).fID)).bind fun y41 => (if decide (y41 < s30.2.2) = true then some (.inr (.inl (6,s30.2.1,s30.2.2))) else some (.inl (s30.1,min (w64 (s30.2.1 * (((rdL p0.fC s30.2.2).fO.length : Nat) : Int))) 4097,w64 (s30.2.2 + 1))))))))) else some (.inr (.inr (s30.1,s30.2.1,s30.2.2))))
theorem recall_Check_l2_le (f:Nat) (p0:TL) (s30:(Int × Int × Int)) : LeO (recall_Check_l2_c f p0 s30) (recall_Check_l2 p0 s30):=by
 unfold recall_Check_l2_c recall_Check_l2
 repeat' first
  | with_reducible first | apply LeO.bind | apply recall_linkOf_le | apply recall_options_le | apply recall_within_le | apply LeO.guard | apply LeO.ite | apply LeO.loop | apply LeO.fold | exact LeO.refl _
  | (intro (u:Sum _ _); cases u <;> dsimp only)
  | intro _
def recall_Check_c (f:Nat) (p0:TL) : Option Int :=
 (if ((decide (60 < (p0.fNo.length:Int))) || (decide (80 < (p0.fC.length:Int)))) = true then some 2 else ((loopF f (recall_Check_l1_c f p0) (0,0)).bind fun u6 => match u6 with | (.inl u27) => some u27.1 | (.inr u28) => ((loopF f (recall_Check_l2_c f p0) (u28.1,1,0)).bind fun u31 => match u31 with | (.inl u47) => some u47.1 | (.inr u48) => (if decide (4096 < u48.2.1) = true then some 2 else some 0))))
theorem recall_Check_le (f:Nat) (p0:TL) : LeO (recall_Check_c f p0) (recall_Check p0):=by
 unfold recall_Check_c recall_Check
 repeat' first
  | with_reducible first | apply LeO.bind | apply recall_Check_l1_le | apply recall_Check_l2_le | apply LeO.guard | apply LeO.ite | apply LeO.loop | apply LeO.fold | exact LeO.refl _
  | (intro (u:Sum _ _); cases u <;> dsimp only)
  | intro _
def cmp_isNaN_int_c (f:Nat) (p0:Int) : Option Bool :=
 some (p0 != p0)
theorem cmp_isNaN_int_le (f:Nat) (p0:Int) : LeO (cmp_isNaN_int_c f p0) (cmp_isNaN_int p0):=by
 unfold cmp_isNaN_int_c cmp_isNaN_int
 repeat' first
  | with_reducible first | apply LeO.bind | apply LeO.guard | apply LeO.ite | apply LeO.loop | apply LeO.fold | exact LeO.refl _
  | (intro (u:Sum _ _); cases u <;> dsimp only)
  | intro _
def recall_level_l1_c (f:Nat) (p0:TL) (p1:Int) (s5:(Int × (List (Int × Bool)))) : Option ((Int × (List (Int × Bool))) ⊕ (Int × (List (Int × Bool)))) :=
 (if decide (s5.1 < (p0.fNo.length:Int)) = true then guardO ((0:Int) ≤ s5.1 ∧ s5.1 < (p0.fNo.length:Int)) ((if (((rdL p0.fNo s5.1).fLevel) == p1) = true then guardO (rngB ((rdL p0.fNo s5.1).fID) = true ∧ List.length s5.2 < 1000000) (some (.inl (w64 (s5.1 + 1),(((rdL p0.fNo s5.1).fID,true) :: s5.2)))) else some (.inl (w64 (s5.1 + 1),s5.2)))) else some (.inr (s5.1,s5.2)))
theorem recall_level_l1_le (f:Nat) (p0:TL) (p1:Int) (s5:(Int × (List (Int × Bool)))) : LeO (recall_level_l1_c f p0 p1 s5) (recall_level_l1 p0 p1 s5):=by
 unfold recall_level_l1_c recall_level_l1
 repeat' first
  | with_reducible first | apply LeO.bind | apply LeO.guard | apply LeO.ite | apply LeO.loop | apply LeO.fold | exact LeO.refl _
  | (intro (u:Sum _ _); cases u <;> dsimp only)
  | intro _
def recall_level_c (f:Nat) (p0:TL) (p1:Int) : Option (List (Int × Bool)) :=
 ((loopF f (recall_level_l1_c f p0 p1) (0,[])).bind fun u6 => some u6.2)
theorem recall_level_le (f:Nat) (p0:TL) (p1:Int) : LeO (recall_level_c f p0 p1) (recall_level p0 p1):=by
 unfold recall_level_c recall_level
 repeat' first
  | with_reducible first | apply LeO.bind | apply recall_level_l1_le | apply LeO.guard | apply LeO.ite | apply LeO.loop | apply LeO.fold | exact LeO.refl _
  | (intro (u:Sum _ _); cases u <;> dsimp only)
  | intro _
def recall_charges_c (f:Nat) (p0:TL) : Option (List Int) :=
 ((recall_level_c f p0 0).bind fun y2 => ((recall_listed y2).bind fun y5 => some y5))
theorem recall_charges_le (f:Nat) (p0:TL) : LeO (recall_charges_c f p0) (recall_charges p0):=by
 unfold recall_charges_c recall_charges
 repeat' first
  | with_reducible first | apply LeO.bind | apply recall_level_le | apply LeO.guard | apply LeO.ite | apply LeO.loop | apply LeO.fold | exact LeO.refl _
  | (intro (u:Sum _ _); cases u <;> dsimp only)
  | intro _
def recall_cases_c (f:Nat) (p0:TL) : Option Unit :=
 some ()
theorem recall_cases_le (f:Nat) (p0:TL) : LeO (recall_cases_c f p0) (recall_cases p0):=by
 unfold recall_cases_c recall_cases
 repeat' first
  | with_reducible first | apply LeO.bind | apply LeO.guard | apply LeO.ite | apply LeO.loop | apply LeO.fold | exact LeO.refl _
  | (intro (u:Sum _ _); cases u <;> dsimp only)
  | intro _
def slices_insertionSortCmpFunc_int_l2_c (f:Nat) (p0:(List Int)) (p1:Int) (p3:Int → Int → Option Int) (s8:(Int × (List Int))) : Option ((Int × (List Int)) ⊕ (Int × (List Int))) :=
 ((if decide (p1 < s8.1) = true then (guardO ((0:Int) ≤ s8.1 ∧ s8.1 < (p0.length:Int)) (guardO ((0:Int) ≤ w64 (s8.1 - 1) ∧ w64 (s8.1 - 1) < (p0.length:Int)) (((p3 (rdL s8.2 s8.1) (rdL s8.2 (w64 (s8.1 - 1)))).bind fun y21 => some (decide (y21 < 0)))))) else (some (false))).bind fun b11 => (if b11 = true then guardO ((0:Int) ≤ w64 (s8.1 - 1) ∧ w64 (s8.1 - 1) < (p0.length:Int)) (guardO ((0:Int) ≤ s8.1 ∧ s8.1 < (p0.length:Int)) (guardO ((0:Int) ≤ s8.1 ∧ s8.1 < (p0.length:Int)) (guardO ((0:Int) ≤ w64 (s8.1 - 1) ∧ w64 (s8.1 - 1) < (p0.length:Int)) (some (.inl (w64 (s8.1 - 1),((s8.2.set (Int.toNat s8.1) (rdL s8.2 (w64 (s8.1 - 1)))).set (Int.toNat (w64 (s8.1 - 1))) (rdL s8.2 s8.1)))))))) else some (.inr (s8.1,s8.2))))
theorem slices_insertionSortCmpFunc_int_l2_le (f:Nat) (p0:(List Int)) (p1:Int) (p3 p3' : Int → Int → Option Int) (hp3_cmp:∀ x0 x1,LeO (p3 x0 x1) (p3' x0 x1)) (s8:(Int × (List Int))) : LeO (slices_insertionSortCmpFunc_int_l2_c f p0 p1 p3 s8) (slices_insertionSortCmpFunc_int_l2 p0 p1 p3' s8):=by
 unfold slices_insertionSortCmpFunc_int_l2_c slices_insertionSortCmpFunc_int_l2
 repeat' first
  | with_reducible first | apply LeO.bind | apply hp3_cmp | apply LeO.guard | apply LeO.ite | apply LeO.loop | apply LeO.fold | exact LeO.refl _
  | (intro (u:Sum _ _); cases u <;> dsimp only)
  | intro _
def slices_insertionSortCmpFunc_int_l1_c (f:Nat) (p0:(List Int)) (p1:Int) (p2:Int) (p3:Int → Int → Option Int) (s3:(Int × (List Int))) : Option ((Int × (List Int)) ⊕ (Int × (List Int))) :=
 (if decide (s3.1 < p2) = true then ((loopF f (slices_insertionSortCmpFunc_int_l2_c f p0 p1 p3) (s3.1,s3.2)).bind fun u9 => some (.inl (w64 (s3.1 + 1),u9.2))) else some (.inr (s3.1,s3.2)))
theorem slices_insertionSortCmpFunc_int_l1_le (f:Nat) (p0:(List Int)) (p1:Int) (p2:Int) (p3 p3' : Int → Int → Option Int) (hp3_cmp:∀ x0 x1,LeO (p3 x0 x1) (p3' x0 x1)) (s3:(Int × (List Int))) : LeO (slices_insertionSortCmpFunc_int_l1_c f p0 p1 p2 p3 s3) (slices_insertionSortCmpFunc_int_l1 p0 p1 p2 p3' s3):=by
 unfold slices_insertionSortCmpFunc_int_l1_c slices_insertionSortCmpFunc_int_l1
 repeat' first
  | with_reducible first | apply LeO.bind | apply hp3_cmp | apply slices_insertionSortCmpFunc_int_l2_le | apply LeO.guard | apply LeO.ite | apply LeO.loop | apply LeO.fold | exact LeO.refl _
  | (intro (u:Sum _ _); cases u <;> dsimp only)
  | intro _
def slices_insertionSortCmpFunc_int_c (f:Nat) (p0:(List Int)) (p1:Int) (p2:Int) (p3:Int → Int → Option Int) : Option (List Int) :=
 ((loopF f (slices_insertionSortCmpFunc_int_l1_c f p0 p1 p2 p3) (w64 (p1 + 1),p0)).bind fun u4 => some u4.2)
theorem slices_insertionSortCmpFunc_int_le (f:Nat) (p0:(List Int)) (p1:Int) (p2:Int) (p3 p3' : Int → Int → Option Int) (hp3_cmp:∀ x0 x1,LeO (p3 x0 x1) (p3' x0 x1)) : LeO (slices_insertionSortCmpFunc_int_c f p0 p1 p2 p3) (slices_insertionSortCmpFunc_int p0 p1 p2 p3'):=by
 unfold slices_insertionSortCmpFunc_int_c slices_insertionSortCmpFunc_int
 repeat' first
  | with_reducible first | apply LeO.bind | apply hp3_cmp | apply slices_insertionSortCmpFunc_int_l1_le | apply LeO.guard | apply LeO.ite | apply LeO.loop | apply LeO.fold | exact LeO.refl _
  | (intro (u:Sum _ _); cases u <;> dsimp only)
  | intro _
def slices_stableCmpFunc_int_l1_c (f:Nat) (p1:Int) (s2:(Int × Int)) : Option ((Int × Int) ⊕ (Int × Int)) :=
 guardO (decide (s2.2 ≤ p1) = false) (some (.inr (s2.1,s2.2)))
theorem slices_stableCmpFunc_int_l1_le (f:Nat) (p1:Int) (s2:(Int × Int)) : LeO (slices_stableCmpFunc_int_l1_c f p1 s2) (slices_stableCmpFunc_int_l1 p1 s2):=by
 unfold slices_stableCmpFunc_int_l1_c slices_stableCmpFunc_int_l1
 repeat' first
  | with_reducible first | apply LeO.bind | apply LeO.guard | apply LeO.ite | apply LeO.loop | apply LeO.fold | exact LeO.refl _
  | (intro (u:Sum _ _); cases u <;> dsimp only)
  | intro _
def slices_stableCmpFunc_int_l2_c (f:Nat) (p1:Int) (s10:(Int × Int × Int)) : Option ((Int × Int × Int) ⊕ (Int × Int × Int)) :=
 guardO (decide (s10.1 < p1) = false) (some (.inr (s10.1,s10.2.1,s10.2.2)))
theorem slices_stableCmpFunc_int_l2_le (f:Nat) (p1:Int) (s10:(Int × Int × Int)) : LeO (slices_stableCmpFunc_int_l2_c f p1 s10) (slices_stableCmpFunc_int_l2 p1 s10):=by
 unfold slices_stableCmpFunc_int_l2_c slices_stableCmpFunc_int_l2
 repeat' first
  | with_reducible first | apply LeO.bind | apply LeO.guard | apply LeO.ite | apply LeO.loop | apply LeO.fold | exact LeO.refl _
  | (intro (u:Sum _ _); cases u <;> dsimp only)
  | intro _
def slices_stableCmpFunc_int_c (f:Nat) (p0:(List Int)) (p1:Int) (p2:Int → Int → Option Int) : Option (List Int) :=
 ((loopF f (slices_stableCmpFunc_int_l1_c f p1) (0,20)).bind fun u3 => ((slices_insertionSortCmpFunc_int_c f p0 u3.1 p1 p2).bind fun y6 => ((loopF f (slices_stableCmpFunc_int_l2_c f p1) (20,u3.1,u3.2)).bind fun u11 => some y6)))
theorem slices_stableCmpFunc_int_le (f:Nat) (p0:(List Int)) (p1:Int) (p2 p2' : Int → Int → Option Int) (hp2_cmp:∀ x0 x1,LeO (p2 x0 x1) (p2' x0 x1)) : LeO (slices_stableCmpFunc_int_c f p0 p1 p2) (slices_stableCmpFunc_int p0 p1 p2'):=by
 unfold slices_stableCmpFunc_int_c slices_stableCmpFunc_int
 repeat' first
  | with_reducible first | apply LeO.bind | apply hp2_cmp | apply slices_insertionSortCmpFunc_int_le | apply slices_stableCmpFunc_int_l1_le | apply slices_stableCmpFunc_int_l2_le | apply LeO.guard | apply LeO.ite | apply LeO.loop | apply LeO.fold | exact LeO.refl _
  | (intro (u:Sum _ _); cases u <;> dsimp only)
  | intro _
def slices_SortStableFunc_int_int_c (f:Nat) (p0:(List Int)) (p1:Int → Int → Option Int) : Option (List Int) :=
 ((slices_stableCmpFunc_int_c f p0 (p0.length:Int) p1).bind fun y1 => some y1)
theorem slices_SortStableFunc_int_int_le (f:Nat) (p0:(List Int)) (p1 p1' : Int → Int → Option Int) (hp1_cmp:∀ x0 x1,LeO (p1 x0 x1) (p1' x0 x1)) : LeO (slices_SortStableFunc_int_int_c f p0 p1) (slices_SortStableFunc_int_int p0 p1'):=by
 unfold slices_SortStableFunc_int_int_c slices_SortStableFunc_int_int
 repeat' first
  | with_reducible first | apply LeO.bind | apply hp1_cmp | apply slices_stableCmpFunc_int_le | apply LeO.guard | apply LeO.ite | apply LeO.loop | apply LeO.fold | exact LeO.refl _
  | (intro (u:Sum _ _); cases u <;> dsimp only)
  | intro _
def cmp_Compare_int_c (f:Nat) (p0:Int) (p1:Int) : Option Int :=
 ((cmp_isNaN_int_c f p0).bind fun y1 => ((cmp_isNaN_int_c f p1).bind fun y3 => (if y1 = true then (if y3 = true then some 0 else some (-1)) else (if y3 = true then some 1 else (if decide (p0 < p1) = true then some (-1) else (if decide (p1 < p0) = true then some 1 else some 0))))))
theorem cmp_Compare_int_le (f:Nat) (p0:Int) (p1:Int) : LeO (cmp_Compare_int_c f p0 p1) (cmp_Compare_int p0 p1):=by
 unfold cmp_Compare_int_c cmp_Compare_int
 repeat' first
  | with_reducible first | apply LeO.bind | apply cmp_isNaN_int_le | apply LeO.guard | apply LeO.ite | apply LeO.loop | apply LeO.fold | exact LeO.refl _
  | (intro (u:Sum _ _); cases u <;> dsimp only)
  | intro _
def recall_levels_1_c (f:Nat) (p0:Int) (p1:Int) (cap0:TL) : Option Int :=
 guardO ((0:Int) ≤ p0 ∧ p0 < (cap0.fNo.length:Int)) (guardO ((0:Int) ≤ p1 ∧ p1 < (cap0.fNo.length:Int)) (((cmp_Compare_int_c f ((rdL cap0.fNo p0).fLevel) ((rdL cap0.fNo p1).fLevel)).bind fun y3 => some y3)))
theorem recall_levels_1_le (f:Nat) (p0:Int) (p1:Int) (cap0:TL) : LeO (recall_levels_1_c f p0 p1 cap0) (recall_levels_1 p0 p1 cap0):=by
 unfold recall_levels_1_c recall_levels_1
 repeat' first
  | with_reducible first | apply LeO.bind | apply cmp_Compare_int_le | apply LeO.guard | apply LeO.ite | apply LeO.loop | apply LeO.fold | exact LeO.refl _
  | (intro (u:Sum _ _); cases u <;> dsimp only)
  | intro _
def recall_levels_l1_c (f:Nat) (p0:TL) (s6:(Int × (List Int))) : Option ((Int × (List Int)) ⊕ (Int × (List Int))) :=
 (if decide (s6.1 < ((Int.toNat (p0.fNo.length:Int) : Nat) : Int)) = true then guardO ((0:Int) ≤ s6.1 ∧ s6.1 < ((Int.toNat (p0.fNo.length:Int) : Nat) : Int)) (some (.inl (w64 (s6.1 + 1),(s6.2.set (Int.toNat s6.1) s6.1)))) else some (.inr (s6.1,s6.2)))
theorem recall_levels_l1_le (f:Nat) (p0:TL) (s6:(Int × (List Int))) : LeO (recall_levels_l1_c f p0 s6) (recall_levels_l1 p0 s6):=by
 unfold recall_levels_l1_c recall_levels_l1
 repeat' first
  | with_reducible first | apply LeO.bind | apply LeO.guard | apply LeO.ite | apply LeO.loop | apply LeO.fold | exact LeO.refl _
  | (intro (u:Sum _ _); cases u <;> dsimp only)
  | intro _
def recall_levels_c (f:Nat) (p0:TL) : Option (List Int) :=
 guardO ((0:Int) ≤ (p0.fNo.length:Int) ∧ (p0.fNo.length:Int) * 8 ≤ 281474976710656) (((loopF f (recall_levels_l1_c f p0) (0,(List.replicate (Int.toNat (p0.fNo.length:Int)) 0))).bind fun u7 => ((slices_SortStableFunc_int_int_c f u7.2 (fun x11 x12 => recall_levels_1_c f x11 x12 p0)).bind fun y13 => some y13)))
theorem recall_levels_le (f:Nat) (p0:TL) : LeO (recall_levels_c f p0) (recall_levels p0):=by
 unfold recall_levels_c recall_levels
 repeat' first
  | with_reducible first | apply LeO.bind | apply recall_levels_1_le | apply recall_levels_l1_le | apply slices_SortStableFunc_int_int_le | apply LeO.guard | apply LeO.ite | apply LeO.loop | apply LeO.fold | exact LeO.refl _
  | (intro (u:Sum _ _); cases u <;> dsimp only)
  | intro _
def recall_reach_l2_c (f:Nat) (p0:TL) (p2:Int → Int → Option Bool) (s5:(Int × (List (Int × (List Int))))) (s12:(Int × (List (Int × (List Int))))) : Option ((Int × (List (Int × (List Int)))) ⊕ (Int × (List (Int × (List Int))))) :=
 (if decide (s12.1 < (((rdL p0.fC s5.1).fO.length : Nat) : Int)) = true then guardO ((0:Int) ≤ s12.1 ∧ s12.1 < (((rdL p0.fC s5.1).fO.length : Nat) : Int)) (((p2 s5.1 s12.1).bind fun y17 => (if y17 = true then guardO (rngB ((rdL ((rdL p0.fC s5.1).fO) s12.1).fFrom) = true) (guardO ((mgetV [] s12.2 ((rdL ((rdL p0.fC s5.1).fO) s12.1).fFrom)).length + 1 ≤ 1000000000) (guardO (rngB ((rdL ((rdL p0.fC s5.1).fO) s12.1).fFrom) = true ∧ List.length s12.2 < 1000000) (some (.inl (w64 (s12.1 + 1),(((rdL ((rdL p0.fC s5.1).fO) s12.1).fFrom,((mgetV [] s12.2 ((rdL ((rdL p0.fC s5.1).fO) s12.1).fFrom)) ++ [(rdL ((rdL p0.fC s5.1).fO) s12.1).fTo])) :: s12.2)))))) else some (.inl (w64 (s12.1 + 1),s12.2))))) else some (.inr (s12.1,s12.2)))
theorem recall_reach_l2_le (f:Nat) (p0:TL) (p2 p2' : Int → Int → Option Bool) (hp2:∀ x0 x1,LeO (p2 x0 x1) (p2' x0 x1)) (s5:(Int × (List (Int × (List Int))))) (s12:(Int × (List (Int × (List Int))))) : LeO (recall_reach_l2_c f p0 p2 s5 s12) (recall_reach_l2 p0 p2' s5 s12):=by
 unfold recall_reach_l2_c recall_reach_l2
 repeat' first
  | with_reducible first | apply LeO.bind | apply hp2 | apply LeO.guard | apply LeO.ite | apply LeO.loop | apply LeO.fold | exact LeO.refl _
  | (intro (u:Sum _ _); cases u <;> dsimp only)
  | intro _
def recall_reach_l1_c (f:Nat) (p0:TL) (p2:Int → Int → Option Bool) (s5:(Int × (List (Int × (List Int))))) : Option ((Int × (List (Int × (List Int)))) ⊕ (Int × (List (Int × (List Int))))) :=
 (if decide (s5.1 < (p0.fC.length:Int)) = true then guardO ((0:Int) ≤ s5.1 ∧ s5.1 < (p0.fC.length:Int)) (((loopF f (recall_reach_l2_c f p0 p2 s5) (0,s5.2)).bind fun u13 => some (.inl (w64 (s5.1 + 1),u13.2)))) else some (.inr (s5.1,s5.2)))
theorem recall_reach_l1_le (f:Nat) (p0:TL) (p2 p2' : Int → Int → Option Bool) (hp2:∀ x0 x1,LeO (p2 x0 x1) (p2' x0 x1)) (s5:(Int × (List (Int × (List Int))))) : LeO (recall_reach_l1_c f p0 p2 s5) (recall_reach_l1 p0 p2' s5):=by
 unfold recall_reach_l1_c recall_reach_l1
 repeat' first
  | with_reducible first | apply LeO.bind | apply hp2 | apply recall_reach_l2_le | apply LeO.guard | apply LeO.ite | apply LeO.loop | apply LeO.fold | exact LeO.refl _
  | (intro (u:Sum _ _); cases u <;> dsimp only)
  | intro _
def recall_reach_l3_c (f:Nat) (p1:(List Int)) (s32:(Int × (List (Int × Bool)))) : Option ((Int × (List (Int × Bool))) ⊕ (Int × (List (Int × Bool)))) :=
 (if decide (s32.1 < (p1.length:Int)) = true then guardO ((0:Int) ≤ s32.1 ∧ s32.1 < (p1.length:Int)) (guardO (rngB (rdL p1 s32.1) = true ∧ List.length s32.2 < 1000000) (some (.inl (w64 (s32.1 + 1),(((rdL p1 s32.1),true) :: s32.2))))) else some (.inr (s32.1,s32.2)))
theorem recall_reach_l3_le (f:Nat) (p1:(List Int)) (s32:(Int × (List (Int × Bool)))) : LeO (recall_reach_l3_c f p1 s32) (recall_reach_l3 p1 s32):=by
 unfold recall_reach_l3_c recall_reach_l3
 repeat' first
  | with_reducible first | apply LeO.bind | apply LeO.guard | apply LeO.ite | apply LeO.loop | apply LeO.fold | exact LeO.refl _
  | (intro (u:Sum _ _); cases u <;> dsimp only)
  | intro _
def recall_reach_l5_c (f:Nat) (p0:TL) (u6:(Int × (List (Int × (List Int))))) (y38:(List Int)) (s46:(Int × (List (Int × Bool)))) (s56:(Int × (List (Int × Bool)))) : Option ((Int × (List (Int × Bool))) ⊕ (Int × (List (Int × Bool)))) :=
 (if decide (s56.1 < (((mgetV [] u6.2 ((rdL p0.fNo (rdL y38 s46.1)).fID)).length : Nat) : Int)) = true then guardO ((0:Int) ≤ s56.1 ∧ s56.1 < (((mgetV [] u6.2 ((rdL p0.fNo (rdL y38 s46.1)).fID)).length : Nat) : Int)) (guardO (rngB (rdL (mgetV [] u6.2 ((rdL p0.fNo (rdL y38 s46.1)).fID)) s56.1) = true ∧ List.length s56.2 < 1000000) (some (.inl (w64 (s56.1 + 1),(((rdL (mgetV [] u6.2 ((rdL p0.fNo (rdL y38 s46.1)).fID)) s56.1),true) :: s56.2))))) else some (.inr (s56.1,s56.2)))
theorem recall_reach_l5_le (f:Nat) (p0:TL) (u6:(Int × (List (Int × (List Int))))) (y38:(List Int)) (s46:(Int × (List (Int × Bool)))) (s56:(Int × (List (Int × Bool)))) : LeO (recall_reach_l5_c f p0 u6 y38 s46 s56) (recall_reach_l5 p0 u6 y38 s46 s56):=by
 unfold recall_reach_l5_c recall_reach_l5
 repeat' first
  | with_reducible first | apply LeO.bind | apply LeO.guard | apply LeO.ite | apply LeO.loop | apply LeO.fold | exact LeO.refl _
  | (intro (u:Sum _ _); cases u <;> dsimp only)
  | intro _
def recall_reach_l4_c (f:Nat) (p0:TL) (u6:(Int × (List (Int × (List Int))))) (y38:(List Int)) (s46:(Int × (List (Int × Bool)))) : Option ((Int × (List (Int × Bool))) ⊕ (Int × (List (Int × Bool)))) :=
 (if decide (s46.1 < (y38.length:Int)) = true then guardO ((0:Int) ≤ s46.1 ∧ s46.1 < (y38.length:Int)) (guardO ((0:Int) ≤ (rdL y38 s46.1) ∧ (rdL y38 s46.1) < (p0.fNo.length:Int)) (guardO (rngB ((rdL p0.fNo (rdL y38 s46.1)).fID) = true) ((if (!(mgetV false s46.2 ((rdL p0.fNo (rdL y38 s46.1)).fID))) = true then some (.inl (w64 (s46.1 + 1),s46.2)) else guardO (rngB ((rdL p0.fNo (rdL y38 s46.1)).fID) = true) (((loopF f (recall_reach_l5_c f p0 u6 y38 s46) (0,s46.2)).bind fun u57 => some (.inl (w64 (s46.1 + 1),u57.2)))))))) else some (.inr (s46.1,s46.2)))
theorem recall_reach_l4_le (f:Nat) (p0:TL) (u6:(Int × (List (Int × (List Int))))) (y38:(List Int)) (s46:(Int × (List (Int × Bool)))) : LeO (recall_reach_l4_c f p0 u6 y38 s46) (recall_reach_l4 p0 u6 y38 s46):=by
 unfold recall_reach_l4_c recall_reach_l4
 repeat' first
  | with_reducible first | apply LeO.bind | apply recall_reach_l5_le | apply LeO.guard | apply LeO.ite | apply LeO.loop | apply LeO.fold | exact LeO.refl _
  | (intro (u:Sum _ _); cases u <;> dsimp only)
  | intro _
def recall_reach_c (f:Nat) (p0:TL) (p1:(List Int)) (p2:Int → Int → Option Bool) : Option (List (Int × Bool)) :=
 ((loopF f (recall_reach_l1_c f p0 p2) (0,([]:(List (Int × (List Int)))))).bind fun u6 => ((loopF f (recall_reach_l3_c f p1) (0,[])).bind fun u33 => ((recall_levels_c f p0).bind fun y38 => ((loopF f (recall_reach_l4_c f p0 u6 y38) (0,u33.2)).bind fun u47 => some u47.2))))
theorem recall_reach_le (f:Nat) (p0:TL) (p1:(List Int)) (p2 p2' : Int → Int → Option Bool) (hp2:∀ x0 x1,LeO (p2 x0 x1) (p2' x0 x1)) : LeO (recall_reach_c f p0 p1 p2) (rcR p0 p1 p2'):=by
 unfold recall_reach_c rcR
 repeat' first
  | with_reducible first | apply LeO.bind | apply hp2 | apply recall_levels_le | apply recall_reach_l1_le | apply recall_reach_l3_le | apply recall_reach_l4_le | apply LeO.guard | apply LeO.ite | apply LeO.loop | apply LeO.fold | exact LeO.refl _
  | (intro (u:Sum _ _); cases u <;> dsimp only)
  | intro _
def recall_fixed_has_c (f:Nat) (p0:(List Int)) (p1:Int) (p2:Int) : Option Bool :=
 guardO ((0:Int) ≤ p1 ∧ p1 < (p0.length:Int)) (some ((rdL p0 p1) == p2))
theorem recall_fixed_has_le (f:Nat) (p0:(List Int)) (p1:Int) (p2:Int) : LeO (recall_fixed_has_c f p0 p1 p2) (recall_fixed_has p0 p1 p2):=by
 unfold recall_fixed_has_c recall_fixed_has
 repeat' first
  | with_reducible first | apply LeO.bind | apply LeO.guard | apply LeO.ite | apply LeO.loop | apply LeO.fold | exact LeO.refl _
  | (intro (u:Sum _ _); cases u <;> dsimp only)
  | intro _
def recall_inCase_c (f:Nat) (p0:(List Int)) : Option Unit :=
 some ()
theorem recall_inCase_le (f:Nat) (p0:(List Int)) : LeO (recall_inCase_c f p0) (recall_inCase p0):=by
 unfold recall_inCase_c recall_inCase
 repeat' first
  | with_reducible first | apply LeO.bind | apply LeO.guard | apply LeO.ite | apply LeO.loop | apply LeO.fold | exact LeO.refl _
  | (intro (u:Sum _ _); cases u <;> dsimp only)
  | intro _
def recall_possible_r1_c (f:Nat) (p0:TL) (p1:(List Int)) (s18:(List (Int × Bool))) (x19:(List Int)) : Option ((List (Int × Bool)) ⊕ Unit) :=
 ((recall_inCase_c f x19).bind fun y21 => ((recall_reach_c f p0 p1 (fun x23 x24 => recall_fixed_has_c f x19 x23 x24)).bind fun y25 => guardO (List.length s18 + List.length y25 ≤ 1000000) (some (.inl (unionV true y25 s18)))))
theorem recall_possible_r1_le (f:Nat) (p0:TL) (p1:(List Int)) (s18:(List (Int × Bool))) (x19:(List Int)) : LeO (recall_possible_r1_c f p0 p1 s18 x19) (recall_possible_r1 p0 p1 s18 x19):=by
 unfold recall_possible_r1_c recall_possible_r1
 repeat' first
  | with_reducible first | apply LeO.bind | apply recall_fixed_has_le | apply recall_inCase_le | apply recall_reach_le | apply LeO.guard | apply LeO.ite | apply LeO.loop | apply LeO.fold | exact LeO.refl _
  | (intro (u:Sum _ _); cases u <;> dsimp only)
  | intro _
def recall_possible_c (f:Nat) (p0:TL) (p1:(List Int)) : Option (List (Int × Bool)) :=
 ((recall_cases_c f p0).bind fun y5 => (guardO (seqCases_ok p0) ((foldO (recall_possible_r1_c f p0 p1) (sCs p0) []).bind fun u20 => match u20 with | .inl u45 => some u45 | .inr _ => none)))
theorem recall_possible_le (f:Nat) (p0:TL) (p1:(List Int)) : LeO (recall_possible_c f p0 p1) (recall_possible p0 p1):=by
 unfold recall_possible_c recall_possible
 repeat' first
  | with_reducible first | apply LeO.bind | apply recall_cases_le | apply recall_possible_r1_le | apply LeO.guard | apply LeO.ite | apply LeO.loop | apply LeO.fold | exact LeO.refl _
  | (intro (u:Sum _ _); cases u <;> dsimp only)
  | intro _
def recall_sure_r1_c (f:Nat) (p0:TL) (p1:(List Int)) (s20:(List (Int × Bool))) (x21:(List Int)) : Option ((List (Int × Bool)) ⊕ Unit) :=
 ((recall_inCase_c f x21).bind fun y23 => ((recall_reach_c f p0 p1 (fun x25 x26 => recall_fixed_has_c f x21 x25 x26)).bind fun y27 => some (.inl (s20.filter (fun p => !(fun y33 => (!(mgetV false y27 y33))) p.1)))))
theorem recall_sure_r1_le (f:Nat) (p0:TL) (p1:(List Int)) (s20:(List (Int × Bool))) (x21:(List Int)) : LeO (recall_sure_r1_c f p0 p1 s20 x21) (recall_sure_r1 p0 p1 s20 x21):=by
 unfold recall_sure_r1_c recall_sure_r1
 repeat' first
  | with_reducible first | apply LeO.bind | apply recall_fixed_has_le | apply recall_inCase_le | apply recall_reach_le | apply LeO.guard | apply LeO.ite | apply LeO.loop | apply LeO.fold | exact LeO.refl _
  | (intro (u:Sum _ _); cases u <;> dsimp only)
  | intro _
def recall_sure_c (f:Nat) (p0:TL) (p1:(List Int)) : Option (List (Int × Bool)) :=
 ((recall_possible_c f p0 p1).bind fun y3 => ((recall_cases_c f p0).bind fun y7 => (guardO (seqCases_ok p0) ((foldO (recall_sure_r1_c f p0 p1) (sCs p0) y3).bind fun u22 => match u22 with | .inl u48 => some u48 | .inr _ => none))))
theorem recall_sure_le (f:Nat) (p0:TL) (p1:(List Int)) : LeO (recall_sure_c f p0 p1) (recall_sure p0 p1):=by
 unfold recall_sure_c recall_sure
 repeat' first
  | with_reducible first | apply LeO.bind | apply recall_cases_le | apply recall_possible_le | apply recall_sure_r1_le | apply LeO.guard | apply LeO.ite | apply LeO.loop | apply LeO.fold | exact LeO.refl _
  | (intro (u:Sum _ _); cases u <;> dsimp only)
  | intro _
def recall_Origins_l1_c (f:Nat) (p0:TL) (p1:Int) (y8:(List Int)) (s16:(Int × (List Int) × (List Int))) : Option ((Int × (List Int) × (List Int)) ⊕ (Int × (List Int) × (List Int))) :=
 (if decide (s16.1 < (y8.length:Int)) = true then guardO ((0:Int) ≤ s16.1 ∧ s16.1 < (y8.length:Int)) (((recall_sure_c f p0 [(rdL y8 s16.1)]).bind fun y21 => guardO (rngB p1 = true) ((if mgetV false y21 p1 = true then guardO (s16.2.1.length + 1 ≤ 1000000000) (((recall_possible_c f p0 [(rdL y8 s16.1)]).bind fun y31 => guardO (rngB p1 = true) ((if mgetV false y31 p1 = true then guardO (s16.2.2.length + 1 ≤ 1000000000) (some (.inl (w64 (s16.1 + 1),(s16.2.1 ++ [(rdL y8 s16.1)]),(s16.2.2 ++ [(rdL y8 s16.1)])))) else some (.inl (w64 (s16.1 + 1),(s16.2.1 ++ [(rdL y8 s16.1)]),s16.2.2)))))) else ((recall_possible_c f p0 [(rdL y8 s16.1)]).bind fun y41 => guardO (rngB p1 = true) ((if mgetV false y41 p1 = true then guardO (s16.2.2.length + 1 ≤ 1000000000) (some (.inl (w64 (s16.1 + 1),s16.2.1,(s16.2.2 ++ [(rdL y8 s16.1)])))) else some (.inl (w64 (s16.1 + 1),s16.2.1,s16.2.2))))))))) else some (.inr (s16.1,s16.2.1,s16.2.2)))
theorem recall_Origins_l1_le (f:Nat) (p0:TL) (p1:Int) (y8:(List Int)) (s16:(Int × (List Int) × (List Int))) : LeO (recall_Origins_l1_c f p0 p1 y8 s16) (recall_Origins_l1 p0 p1 y8 s16):=by
 unfold recall_Origins_l1_c recall_Origins_l1
 repeat' first
  | with_reducible first | apply LeO.bind | apply recall_possible_le | apply recall_sure_le | apply LeO.guard | apply LeO.ite | apply LeO.loop | apply LeO.fold | exact LeO.refl _
  | (intro (u:Sum _ _); cases u <;> dsimp only)
  | intro _
def recall_Origins_c (f:Nat) (p0:TL) (p1:Int) : Option ((List Int) × (List Int) × Int) :=
 ((recall_Check_c f p0).bind fun y2 => (if (y2 != 0) = true then some ([],[],y2) else ((recall_nodeOf_c f p0 p1).bind fun y5 => (if decide (y5 < 0) = true then some ([],[],5) else ((recall_charges_c f p0).bind fun y8 => ((loopF f (recall_Origins_l1_c f p0 p1 y8) (0,([]:List Int),([]:List Int))).bind fun u17 => some (u17.2.1,u17.2.2,0)))))))
theorem recall_Origins_le (f:Nat) (p0:TL) (p1:Int) : LeO (recall_Origins_c f p0 p1) (recall_Origins p0 p1):=by
 unfold recall_Origins_c recall_Origins
 repeat' first
  | with_reducible first | apply LeO.bind | apply recall_Check_le | apply recall_Origins_l1_le | apply recall_charges_le | apply recall_nodeOf_le | apply LeO.guard | apply LeO.ite | apply LeO.loop | apply LeO.fold | exact LeO.refl _
  | (intro (u:Sum _ _); cases u <;> dsimp only)
  | intro _
def recall_increasing_int_l1_c (f:Nat) (p0:(List Int)) (p1:Int → Option Int) (p2:Int → Option Bool) (s2:(Bool × Int)) : Option ((Bool × Int) ⊕ ((Bool × Int) ⊕ (Bool × Int))) :=
 (if decide (s2.2 < (p0.length:Int)) = true then guardO ((0:Int) ≤ s2.2 ∧ s2.2 < (p0.length:Int)) (((p1 (rdL p0 s2.2)).bind fun y6 => ((p2 y6).bind fun y8 => ((if (!y8) = true then (some (true)) else ((if decide (0 < s2.2) = true then ((p1 (rdL p0 s2.2)).bind fun y17 => guardO ((0:Int) ≤ w64 (s2.2 - 1) ∧ w64 (s2.2 - 1) < (p0.length:Int)) (((p1 (rdL p0 (w64 (s2.2 - 1)))).bind fun y20 => some (decide (y17 ≤ y20))))) else (some (false))).bind fun b15 => some (b15))).bind fun b11 => (if b11 = true then some (.inr (.inl (false,s2.2))) else some (.inl (s2.1,w64 (s2.2 + 1)))))))) else some (.inr (.inr (s2.1,s2.2))))
theorem recall_increasing_int_l1_le (f:Nat) (p0:(List Int)) (p1 p1' : Int → Option Int) (hp1_id:∀ x,LeO (p1 x) (p1' x)) (p2 p2' : Int → Option Bool) (hp2_so:∀ x,LeO (p2 x) (p2' x)) (s2:(Bool × Int)) : LeO (recall_increasing_int_l1_c f p0 p1 p2 s2) (recall_increasing_int_l1 p0 p1' p2' s2):=by
 unfold recall_increasing_int_l1_c recall_increasing_int_l1
 repeat' first
  | with_reducible first | apply LeO.bind | apply hp1_id | apply hp2_so | apply LeO.guard | apply LeO.ite | apply LeO.loop | apply LeO.fold | exact LeO.refl _
  | (intro (u:Sum _ _); cases u <;> dsimp only)
  | intro _
def recall_increasing_int_c (f:Nat) (p0:(List Int)) (p1:Int → Option Int) (p2:Int → Option Bool) : Option Bool :=
 ((loopF f (recall_increasing_int_l1_c f p0 p1 p2) (false,0)).bind fun u3 => match u3 with | (.inl u23) => some u23.1 | (.inr u24) => some true)
theorem recall_increasing_int_le (f:Nat) (p0:(List Int)) (p1 p1' : Int → Option Int) (hp1_id:∀ x,LeO (p1 x) (p1' x)) (p2 p2' : Int → Option Bool) (hp2_so:∀ x,LeO (p2 x) (p2' x)) : LeO (recall_increasing_int_c f p0 p1 p2) (recall_increasing_int p0 p1' p2'):=by
 unfold recall_increasing_int_c recall_increasing_int
 repeat' first
  | with_reducible first | apply LeO.bind | apply hp1_id | apply hp2_so | apply recall_increasing_int_l1_le | apply LeO.guard | apply LeO.ite | apply LeO.loop | apply LeO.fold | exact LeO.refl _
  | (intro (u:Sum _ _); cases u <;> dsimp only)
  | intro _
def recall_own_c (f:Nat) (p0:Int) : Option Int :=
 some p0
theorem recall_own_le (f:Nat) (p0:Int) : LeO (recall_own_c f p0) (recall_own p0):=by
 unfold recall_own_c recall_own
 repeat' first
  | with_reducible first | apply LeO.bind | apply LeO.guard | apply LeO.ite | apply LeO.loop | apply LeO.fold | exact LeO.refl _
  | (intro (u:Sum _ _); cases u <;> dsimp only)
  | intro _
def recall_isFrom_1_c (f:Nat) (p0:Int) (cap0:TL) : Option Bool :=
 ((recall_nodeOf_c f cap0 p0).bind fun y1 => some (decide (0 ≤ y1)))
theorem recall_isFrom_1_le (f:Nat) (p0:Int) (cap0:TL) : LeO (recall_isFrom_1_c f p0 cap0) (recall_isFrom_1 p0 cap0):=by
 unfold recall_isFrom_1_c recall_isFrom_1
 repeat' first
  | with_reducible first | apply LeO.bind | apply recall_nodeOf_le | apply LeO.guard | apply LeO.ite | apply LeO.loop | apply LeO.fold | exact LeO.refl _
  | (intro (u:Sum _ _); cases u <;> dsimp only)
  | intro _
def recall_isFrom_c (f:Nat) (p0:TL) (p1:(List Int)) : Option Bool :=
 ((if decide (0 < (p1.length:Int)) = true then ((recall_increasing_int_c f p1 (fun x5 => recall_own_c f x5) (fun x6 => recall_isFrom_1_c f x6 p0)).bind fun y7 => some (y7)) else (some (false))).bind fun b3 => some b3)
theorem recall_isFrom_le (f:Nat) (p0:TL) (p1:(List Int)) : LeO (recall_isFrom_c f p0 p1) (recall_isFrom p0 p1):=by
 unfold recall_isFrom_c recall_isFrom
 repeat' first
  | with_reducible first | apply LeO.bind | apply recall_increasing_int_le | apply recall_isFrom_1_le | apply recall_own_le | apply LeO.guard | apply LeO.ite | apply LeO.loop | apply LeO.fold | exact LeO.refl _
  | (intro (u:Sum _ _); cases u <;> dsimp only)
  | intro _
def recall_asked_c (f:Nat) (p0:TL) (p1:(List Int)) : Option Int :=
 ((recall_Check_c f p0).bind fun y2 => (if (y2 != 0) = true then some y2 else ((recall_isFrom_c f p0 p1).bind fun y5 => (if (!y5) = true then some 1 else some 0))))
theorem recall_asked_le (f:Nat) (p0:TL) (p1:(List Int)) : LeO (recall_asked_c f p0 p1) (recall_asked p0 p1):=by
 unfold recall_asked_c recall_asked
 repeat' first
  | with_reducible first | apply LeO.bind | apply recall_Check_le | apply recall_isFrom_le | apply LeO.guard | apply LeO.ite | apply LeO.loop | apply LeO.fold | exact LeO.refl _
  | (intro (u:Sum _ _); cases u <;> dsimp only)
  | intro _
def recall_walls_l1_c (f:Nat) (p0:TL) (p1:(List (Int × Bool))) (s5:(Int × Int × (List (Int × Bool)))) : Option ((Int × Int × (List (Int × Bool))) ⊕ (Int × Int × (List (Int × Bool)))) :=
 (if decide (s5.2.1 < (p0.fNo.length:Int)) = true then guardO ((0:Int) ≤ s5.2.1 ∧ s5.2.1 < (p0.fNo.length:Int)) (((if (((rdL p0.fNo s5.2.1).fLevel) == 9) = true then (guardO (rngB ((rdL p0.fNo s5.2.1).fID) = true) (some (mgetV false p1 ((rdL p0.fNo s5.2.1).fID)))) else (some (false))).bind fun b11 => (if b11 = true then guardO (rngB ((rdL p0.fNo s5.2.1).fID) = true ∧ List.length s5.2.2 < 1000000) (some (.inl (w64 (s5.1 + ((rdL p0.fNo s5.2.1).fCost)),w64 (s5.2.1 + 1),(((rdL p0.fNo s5.2.1).fID,true) :: s5.2.2)))) else some (.inl (s5.1,w64 (s5.2.1 + 1),s5.2.2))))) else some (.inr (s5.1,s5.2.1,s5.2.2)))
theorem recall_walls_l1_le (f:Nat) (p0:TL) (p1:(List (Int × Bool))) (s5:(Int × Int × (List (Int × Bool)))) : LeO (recall_walls_l1_c f p0 p1 s5) (recall_walls_l1 p0 p1 s5):=by
 unfold recall_walls_l1_c recall_walls_l1
 repeat' first
  | with_reducible first | apply LeO.bind | apply LeO.guard | apply LeO.ite | apply LeO.loop | apply LeO.fold | exact LeO.refl _
  | (intro (u:Sum _ _); cases u <;> dsimp only)
  | intro _
def recall_walls_c (f:Nat) (p0:TL) (p1:(List (Int × Bool))) : Option ((List Int) × Int) :=
 ((loopF f (recall_walls_l1_c f p0 p1) (0,0,[])).bind fun u6 => ((recall_listed u6.2.2).bind fun y17 => some (y17,u6.1)))
theorem recall_walls_le (f:Nat) (p0:TL) (p1:(List (Int × Bool))) : LeO (recall_walls_c f p0 p1) (recall_walls p0 p1):=by
 unfold recall_walls_c recall_walls
 repeat' first
  | with_reducible first | apply LeO.bind | apply recall_walls_l1_le | apply LeO.guard | apply LeO.ite | apply LeO.loop | apply LeO.fold | exact LeO.refl _
  | (intro (u:Sum _ _); cases u <;> dsimp only)
  | intro _
def recall_Recall_c (f:Nat) (p0:TL) (p1:(List Int)) (p2:Bool) : Option ((List Int) × Int × Int) :=
 ((recall_asked_c f p0 p1).bind fun y2 => (if (y2 != 0) = true then some ([],0,y2) else ((recall_possible_c f p0 p1).bind fun y5 => (if p2 = true then ((recall_sure_c f p0 p1).bind fun y9 => ((recall_walls_c f p0 y9).bind fun y12 => some (y12.1,y12.2,0))) else ((recall_walls_c f p0 y5).bind fun y18 => some (y18.1,y18.2,0))))))
theorem recall_Recall_le (f:Nat) (p0:TL) (p1:(List Int)) (p2:Bool) : LeO (recall_Recall_c f p0 p1 p2) (recall_Recall p0 p1 p2):=by
 unfold recall_Recall_c recall_Recall
 repeat' first
  | with_reducible first | apply LeO.bind | apply recall_asked_le | apply recall_possible_le | apply recall_sure_le | apply recall_walls_le | apply LeO.guard | apply LeO.ite | apply LeO.loop | apply LeO.fold | exact LeO.refl _
  | (intro (u:Sum _ _); cases u <;> dsimp only)
  | intro _
def ref09_SameInts_l1_c (f:Nat) (p0:(List Int)) (p1:(List Int)) (s3:(Bool × Int)) : Option ((Bool × Int) ⊕ ((Bool × Int) ⊕ (Bool × Int))) :=
 (if decide (s3.2 < (p0.length:Int)) = true then guardO ((0:Int) ≤ s3.2 ∧ s3.2 < (p0.length:Int)) (guardO ((0:Int) ≤ s3.2 ∧ s3.2 < (p1.length:Int)) ((if ((rdL p0 s3.2) != (rdL p1 s3.2)) = true then some (.inr (.inl (false,s3.2))) else some (.inl (s3.1,w64 (s3.2 + 1)))))) else some (.inr (.inr (s3.1,s3.2))))
theorem ref09_SameInts_l1_le (f:Nat) (p0:(List Int)) (p1:(List Int)) (s3:(Bool × Int)) : LeO (ref09_SameInts_l1_c f p0 p1 s3) (ref09_SameInts_l1 p0 p1 s3):=by
 unfold ref09_SameInts_l1_c ref09_SameInts_l1
 repeat' first
  | with_reducible first | apply LeO.bind | apply LeO.guard | apply LeO.ite | apply LeO.loop | apply LeO.fold | exact LeO.refl _
  | (intro (u:Sum _ _); cases u <;> dsimp only)
  | intro _
def ref09_SameInts_c (f:Nat) (p0:(List Int)) (p1:(List Int)) : Option Bool :=
 (if ((p0.length:Int) != (p1.length:Int)) = true then some false else ((loopF f (ref09_SameInts_l1_c f p0 p1) (false,0)).bind fun u4 => match u4 with | (.inl u10) => some u10.1 | (.inr u11) => some true))
theorem ref09_SameInts_le (f:Nat) (p0:(List Int)) (p1:(List Int)) : LeO (ref09_SameInts_c f p0 p1) (ref09_SameInts p0 p1):=by
 unfold ref09_SameInts_c ref09_SameInts
 repeat' first
  | with_reducible first | apply LeO.bind | apply ref09_SameInts_l1_le | apply LeO.guard | apply LeO.ite | apply LeO.loop | apply LeO.fold | exact LeO.refl _
  | (intro (u:Sum _ _); cases u <;> dsimp only)
  | intro _
def recall_askedTo_c (f:Nat) (p0:TL) (p1:(List Int)) (p2:Int) : Option Int :=
 ((recall_asked_c f p0 p1).bind fun y2 => (if (y2 != 0) = true then some y2 else ((recall_nodeOf_c f p0 p2).bind fun y5 => (if decide (y5 < 0) = true then some 5 else some 0))))
theorem recall_askedTo_le (f:Nat) (p0:TL) (p1:(List Int)) (p2:Int) : LeO (recall_askedTo_c f p0 p1 p2) (recall_askedTo p0 p1 p2):=by
 unfold recall_askedTo_c recall_askedTo
 repeat' first
  | with_reducible first | apply LeO.bind | apply recall_asked_le | apply recall_nodeOf_le | apply LeO.guard | apply LeO.ite | apply LeO.loop | apply LeO.fold | exact LeO.refl _
  | (intro (u:Sum _ _); cases u <;> dsimp only)
  | intro _
def recall_maybe_1_c (f:Nat) (p0:Int) (p1:Int) (cap0:(List Int)) (cap1:Int → Int → Option Bool) : Option Bool :=
 guardO ((0:Int) ≤ p0 ∧ p0 < (cap0.length:Int)) (((if ((rdL cap0 p0) == p1) = true then ((cap1 p0 p1).bind fun y5 => some (y5)) else (some (false))).bind fun b3 => some b3))
theorem recall_maybe_1_le (f:Nat) (p0:Int) (p1:Int) (cap0:(List Int)) (cap1 cap1' : Int → Int → Option Bool) (hcap1:∀ x0 x1,LeO (cap1 x0 x1) (cap1' x0 x1)) : LeO (recall_maybe_1_c f p0 p1 cap0 cap1) (recall_maybe_1 p0 p1 cap0 cap1'):=by
 unfold recall_maybe_1_c recall_maybe_1
 repeat' first
  | with_reducible first | apply LeO.bind | apply hcap1 | apply LeO.guard | apply LeO.ite | apply LeO.loop | apply LeO.fold | exact LeO.refl _
  | (intro (u:Sum _ _); cases u <;> dsimp only)
  | intro _
def recall_maybe_r1_c (f:Nat) (p0:TL) (p1:(List Int)) (p2:Int) (p3:Int → Int → Option Bool) (s24:Bool) (x25:(List Int)) : Option (Bool ⊕ Bool) :=
 ((recall_reach_c f p0 p1 (fun x28 x29 => recall_maybe_1_c f x28 x29 x25 p3)).bind fun y30 => guardO (rngB p2 = true) ((if mgetV false y30 p2 = true then some (.inr true) else some (.inl s24))))
theorem recall_maybe_r1_le (f:Nat) (p0:TL) (p1:(List Int)) (p2:Int) (p3 p3' : Int → Int → Option Bool) (hp3_so:∀ x0 x1,LeO (p3 x0 x1) (p3' x0 x1)) (s24:Bool) (x25:(List Int)) : LeO (recall_maybe_r1_c f p0 p1 p2 p3 s24 x25) (recall_maybe_r1 p0 p1 p2 p3' s24 x25):=by
 unfold recall_maybe_r1_c recall_maybe_r1
 repeat' first
  | with_reducible first | apply LeO.bind | apply hp3_so | apply recall_maybe_1_le | apply recall_reach_le | apply LeO.guard | apply LeO.ite | apply LeO.loop | apply LeO.fold | exact LeO.refl _
  | (intro (u:Sum _ _); cases u <;> dsimp only)
  | intro _
def recall_maybe_c (f:Nat) (p0:TL) (p1:(List Int)) (p2:Int) (p3:Int → Int → Option Bool) : Option Bool :=
 ((recall_reach_c f p0 p1 p3).bind fun y6 => guardO (rngB p2 = true) ((if (!(mgetV false y6 p2)) = true then some false else ((recall_cases_c f p0).bind fun y11 => (guardO (seqCases_ok p0) ((foldO (recall_maybe_r1_c f p0 p1 p2 p3) (sCs p0) false).bind fun u26 => match u26 with | .inl u37 => some false | .inr u38 => some u38))))))
theorem recall_maybe_le (f:Nat) (p0:TL) (p1:(List Int)) (p2:Int) (p3 p3' : Int → Int → Option Bool) (hp3_so:∀ x0 x1,LeO (p3 x0 x1) (p3' x0 x1)) : LeO (recall_maybe_c f p0 p1 p2 p3) (recall_maybe p0 p1 p2 p3'):=by
 unfold recall_maybe_c recall_maybe
 repeat' first
  | with_reducible first | apply LeO.bind | apply hp3_so | apply recall_cases_le | apply recall_maybe_r1_le | apply recall_reach_le | apply LeO.guard | apply LeO.ite | apply LeO.loop | apply LeO.fold | exact LeO.refl _
  | (intro (u:Sum _ _); cases u <;> dsimp only)
  | intro _
def recall_anyOption_c (f:Nat) (p0:Int) (p1:Int) : Option Bool :=
 some true
theorem recall_anyOption_le (f:Nat) (p0:Int) (p1:Int) : LeO (recall_anyOption_c f p0 p1) (recall_anyOption p0 p1):=by
 unfold recall_anyOption_c recall_anyOption
 repeat' first
  | with_reducible first | apply LeO.bind | apply LeO.guard | apply LeO.ite | apply LeO.loop | apply LeO.fold | exact LeO.refl _
  | (intro (u:Sum _ _); cases u <;> dsimp only)
  | intro _
def recall_Hangs_1_c (f:Nat) (p0:Int) (p1:Int) (cap0:Int) : Option Bool :=
 some (p0 != cap0)
theorem recall_Hangs_1_le (f:Nat) (p0:Int) (p1:Int) (cap0:Int) : LeO (recall_Hangs_1_c f p0 p1 cap0) (recall_Hangs_1 p0 p1 cap0):=by
 unfold recall_Hangs_1_c recall_Hangs_1
 repeat' first
  | with_reducible first | apply LeO.bind | apply LeO.guard | apply LeO.ite | apply LeO.loop | apply LeO.fold | exact LeO.refl _
  | (intro (u:Sum _ _); cases u <;> dsimp only)
  | intro _
def recall_Hangs_l1_c (f:Nat) (p0:TL) (p1:(List Int)) (p2:Int) (s12:(Int × (List Int))) : Option ((Int × (List Int)) ⊕ (Int × (List Int))) :=
 (if decide (s12.1 < (p0.fC.length:Int)) = true then guardO ((0:Int) ≤ s12.1 ∧ s12.1 < (p0.fC.length:Int)) (((recall_maybe_c f p0 p1 p2 (fun x18 x19 => recall_Hangs_1_c f x18 x19 s12.1)).bind fun y20 => (if (!y20) = true then guardO (s12.2.length + 1 ≤ 1000000000) (some (.inl (w64 (s12.1 + 1),(s12.2 ++ [(rdL p0.fC s12.1).fID])))) else some (.inl (w64 (s12.1 + 1),s12.2))))) else some (.inr (s12.1,s12.2)))
theorem recall_Hangs_l1_le (f:Nat) (p0:TL) (p1:(List Int)) (p2:Int) (s12:(Int × (List Int))) : LeO (recall_Hangs_l1_c f p0 p1 p2 s12) (recall_Hangs_l1 p0 p1 p2 s12):=by
 unfold recall_Hangs_l1_c recall_Hangs_l1
 repeat' first
  | with_reducible first | apply LeO.bind | apply recall_Hangs_1_le | apply recall_maybe_le | apply LeO.guard | apply LeO.ite | apply LeO.loop | apply LeO.fold | exact LeO.refl _
  | (intro (u:Sum _ _); cases u <;> dsimp only)
  | intro _
def recall_Hangs_c (f:Nat) (p0:TL) (p1:(List Int)) (p2:Int) : Option ((List Int) × Int) :=
 ((recall_askedTo_c f p0 p1 p2).bind fun y2 => (if (y2 != 0) = true then some ([],y2) else ((recall_maybe_c f p0 p1 p2 (fun x5 x6 => recall_anyOption_c f x5 x6)).bind fun y7 => (if (!y7) = true then some ([],5) else ((loopF f (recall_Hangs_l1_c f p0 p1 p2) (0,([]:List Int))).bind fun u13 => ((slices_Sort_int_int u13.2).bind fun y28 => some (y28,0)))))))
theorem recall_Hangs_le (f:Nat) (p0:TL) (p1:(List Int)) (p2:Int) : LeO (recall_Hangs_c f p0 p1 p2) (recall_Hangs p0 p1 p2):=by
 unfold recall_Hangs_c recall_Hangs
 repeat' first
  | with_reducible first | apply LeO.bind | apply recall_Hangs_l1_le | apply recall_anyOption_le | apply recall_askedTo_le | apply recall_maybe_le | apply LeO.guard | apply LeO.ite | apply LeO.loop | apply LeO.fold | exact LeO.refl _
  | (intro (u:Sum _ _); cases u <;> dsimp only)
  | intro _
def slices_Index_int_int_l1_c (f:Nat) (p0:(List Int)) (p1:Int) (s2:(Int × Int)) : Option ((Int × Int) ⊕ ((Int × Int) ⊕ (Int × Int))) :=
 (if decide (s2.2 < (p0.length:Int)) = true then guardO ((0:Int) ≤ s2.2 ∧ s2.2 < (p0.length:Int)) ((if (p1 == (rdL p0 s2.2)) = true then some (.inr (.inl (s2.2,s2.2))) else some (.inl (s2.1,w64 (s2.2 + 1))))) else some (.inr (.inr (s2.1,s2.2))))
theorem slices_Index_int_int_l1_le (f:Nat) (p0:(List Int)) (p1:Int) (s2:(Int × Int)) : LeO (slices_Index_int_int_l1_c f p0 p1 s2) (slices_Index_int_int_l1 p0 p1 s2):=by
 unfold slices_Index_int_int_l1_c slices_Index_int_int_l1
 repeat' first
  | with_reducible first | apply LeO.bind | apply LeO.guard | apply LeO.ite | apply LeO.loop | apply LeO.fold | exact LeO.refl _
  | (intro (u:Sum _ _); cases u <;> dsimp only)
  | intro _
def slices_Index_int_int_c (f:Nat) (p0:(List Int)) (p1:Int) : Option Int :=
 ((loopF f (slices_Index_int_int_l1_c f p0 p1) (0,0)).bind fun u3 => match u3 with | (.inl u8) => some u8.1 | (.inr u9) => some (-1))
theorem slices_Index_int_int_le (f:Nat) (p0:(List Int)) (p1:Int) : LeO (slices_Index_int_int_c f p0 p1) (slices_Index_int_int p0 p1):=by
 unfold slices_Index_int_int_c slices_Index_int_int
 repeat' first
  | with_reducible first | apply LeO.bind | apply slices_Index_int_int_l1_le | apply LeO.guard | apply LeO.ite | apply LeO.loop | apply LeO.fold | exact LeO.refl _
  | (intro (u:Sum _ _); cases u <;> dsimp only)
  | intro _
def slices_Contains_int_int_c (f:Nat) (p0:(List Int)) (p1:Int) : Option Bool :=
 ((slices_Index_int_int_c f p0 p1).bind fun y1 => some (decide (0 ≤ y1)))
theorem slices_Contains_int_int_le (f:Nat) (p0:(List Int)) (p1:Int) : LeO (slices_Contains_int_int_c f p0 p1) (slices_Contains_int_int p0 p1):=by
 unfold slices_Contains_int_int_c slices_Contains_int_int
 repeat' first
  | with_reducible first | apply LeO.bind | apply slices_Index_int_int_le | apply LeO.guard | apply LeO.ite | apply LeO.loop | apply LeO.fold | exact LeO.refl _
  | (intro (u:Sum _ _); cases u <;> dsimp only)
  | intro _
def recall_Gates_1_c (f:Nat) (p0:Int) (p1:Int) (cap0:TL) (cap1:TN) : Option Bool :=
 guardO ((0:Int) ≤ p0 ∧ p0 < (cap0.fC.length:Int)) (guardO ((0:Int) ≤ p1 ∧ p1 < (((rdL cap0.fC p0).fO.length : Nat) : Int)) (some (((rdL ((rdL cap0.fC p0).fO) p1).fTo) != cap1.fID)))
theorem recall_Gates_1_le (f:Nat) (p0:Int) (p1:Int) (cap0:TL) (cap1:TN) : LeO (recall_Gates_1_c f p0 p1 cap0 cap1) (recall_Gates_1 p0 p1 cap0 cap1):=by
 unfold recall_Gates_1_c recall_Gates_1
 repeat' first
  | with_reducible first | apply LeO.bind | apply LeO.guard | apply LeO.ite | apply LeO.loop | apply LeO.fold | exact LeO.refl _
  | (intro (u:Sum _ _); cases u <;> dsimp only)
  | intro _
def recall_Gates_l1_c (f:Nat) (p0:TL) (p1:(List Int)) (p2:Int) (s12:(Int × (List Int))) : Option ((Int × (List Int)) ⊕ (Int × (List Int))) :=
 (if decide (s12.1 < (p0.fNo.length:Int)) = true then guardO ((0:Int) ≤ s12.1 ∧ s12.1 < (p0.fNo.length:Int)) (((if (((rdL p0.fNo s12.1).fID) == p2) = true then (some (true)) else ((slices_Contains_int_int_c f p1 ((rdL p0.fNo s12.1).fID)).bind fun y30 => some (y30))).bind fun b18 => (if b18 = true then some (.inl (w64 (s12.1 + 1),s12.2)) else ((recall_maybe_c f p0 p1 p2 (fun x21 x22 => recall_Gates_1_c f x21 x22 p0 (TN.mk ((rdL p0.fNo s12.1).fID) ((rdL p0.fNo s12.1).fLevel) ((rdL p0.fNo s12.1).fCost)))).bind fun y23 => (if (!y23) = true then guardO (s12.2.length + 1 ≤ 1000000000) (some (.inl (w64 (s12.1 + 1),(s12.2 ++ [(rdL p0.fNo s12.1).fID])))) else some (.inl (w64 (s12.1 + 1),s12.2))))))) else some (.inr (s12.1,s12.2)))
theorem recall_Gates_l1_le (f:Nat) (p0:TL) (p1:(List Int)) (p2:Int) (s12:(Int × (List Int))) : LeO (recall_Gates_l1_c f p0 p1 p2 s12) (recall_Gates_l1 p0 p1 p2 s12):=by
 unfold recall_Gates_l1_c recall_Gates_l1
 repeat' first
  | with_reducible first | apply LeO.bind | apply recall_Gates_1_le | apply recall_maybe_le | apply slices_Contains_int_int_le | apply LeO.guard | apply LeO.ite | apply LeO.loop | apply LeO.fold | exact LeO.refl _
  | (intro (u:Sum _ _); cases u <;> dsimp only)
  | intro _
def recall_Gates_c (f:Nat) (p0:TL) (p1:(List Int)) (p2:Int) : Option ((List Int) × Int) :=
 ((recall_askedTo_c f p0 p1 p2).bind fun y2 => (if (y2 != 0) = true then some ([],y2) else ((recall_maybe_c f p0 p1 p2 (fun x5 x6 => recall_anyOption_c f x5 x6)).bind fun y7 => (if (!y7) = true then some ([],5) else ((loopF f (recall_Gates_l1_c f p0 p1 p2) (0,([]:List Int))).bind fun u13 => ((slices_Sort_int_int u13.2).bind fun y33 => some (y33,0)))))))
theorem recall_Gates_le (f:Nat) (p0:TL) (p1:(List Int)) (p2:Int) : LeO (recall_Gates_c f p0 p1 p2) (recall_Gates p0 p1 p2):=by
 unfold recall_Gates_c recall_Gates
 repeat' first
  | with_reducible first | apply LeO.bind | apply recall_Gates_l1_le | apply recall_anyOption_le | apply recall_askedTo_le | apply recall_maybe_le | apply LeO.guard | apply LeO.ite | apply LeO.loop | apply LeO.fold | exact LeO.refl _
  | (intro (u:Sum _ _); cases u <;> dsimp only)
  | intro _
def recall_Share_r1_c (f:Nat) (p0:TL) (p1:(List Int)) (p2:Int) (s23:(Int × Int)) (x24:(List Int)) : Option ((Int × Int) ⊕ Unit) :=
 ((recall_inCase_c f x24).bind fun y27 => ((recall_reach_c f p0 p1 (fun x29 x30 => recall_fixed_has_c f x24 x29 x30)).bind fun y31 => guardO (rngB p2 = true) ((if mgetV false y31 p2 = true then some (.inl (w64 (s23.1 + 1),w64 (s23.2 + 1))) else some (.inl (s23.1,w64 (s23.2 + 1)))))))
theorem recall_Share_r1_le (f:Nat) (p0:TL) (p1:(List Int)) (p2:Int) (s23:(Int × Int)) (x24:(List Int)) : LeO (recall_Share_r1_c f p0 p1 p2 s23 x24) (recall_Share_r1 p0 p1 p2 s23 x24):=by
 unfold recall_Share_r1_c recall_Share_r1
 repeat' first
  | with_reducible first | apply LeO.bind | apply recall_fixed_has_le | apply recall_inCase_le | apply recall_reach_le | apply LeO.guard | apply LeO.ite | apply LeO.loop | apply LeO.fold | exact LeO.refl _
  | (intro (u:Sum _ _); cases u <;> dsimp only)
  | intro _
def recall_Share_l2_c (f:Nat) (s40:(Int × Int)) : Option ((Int × Int) ⊕ (Int × Int)) :=
 (if decide (0 < s40.2) = true then guardO (s40.2 ≠ 0) (some (.inl (s40.2,Int.tmod s40.1 s40.2))) else some (.inr (s40.1,s40.2)))
theorem recall_Share_l2_le (f:Nat) (s40:(Int × Int)) : LeO (recall_Share_l2_c f s40) (recall_Share_l2 s40):=by
 unfold recall_Share_l2_c recall_Share_l2
 repeat' first
  | with_reducible first | apply LeO.bind | apply LeO.guard | apply LeO.ite | apply LeO.loop | apply LeO.fold | exact LeO.refl _
  | (intro (u:Sum _ _); cases u <;> dsimp only)
  | intro _
def recall_Share_c (f:Nat) (p0:TL) (p1:(List Int)) (p2:Int) : Option (TRatio × Int) :=
 ((recall_askedTo_c f p0 p1 p2).bind fun y5 => (if (y5 != 0) = true then some ((TRatio.mk 0 0),y5) else ((recall_cases_c f p0).bind fun y10 => (guardO (seqCases_ok p0) ((foldO (recall_Share_r1_c f p0 p1 p2) (sCs p0) (0,0)).bind fun u25 => match u25 with | .inl u38 => ((loopF f (recall_Share_l2_c f) (u38.1,u38.2)).bind fun u41 => guardO (u41.1 ≠ 0) (guardO (u41.1 ≠ 0) (some ((TRatio.mk (w64 (Int.tdiv u38.1 u41.1)) (w64 (Int.tdiv u38.2 u41.1))),0)))) | .inr _ => none)))))
theorem recall_Share_le (f:Nat) (p0:TL) (p1:(List Int)) (p2:Int) : LeO (recall_Share_c f p0 p1 p2) (recall_Share p0 p1 p2):=by
 unfold recall_Share_c recall_Share
 repeat' first
  | with_reducible first | apply LeO.bind | apply recall_Share_l2_le | apply recall_Share_r1_le | apply recall_askedTo_le | apply recall_cases_le | apply LeO.guard | apply LeO.ite | apply LeO.loop | apply LeO.fold | exact LeO.refl _
  | (intro (u:Sum _ _); cases u <;> dsimp only)
  | intro _
def recall_doubt_c (f:Nat) (p0:TL) (p1:(List Int)) : Option Int :=
 ((recall_possible_c f p0 p1).bind fun y2 => ((recall_sure_c f p0 p1).bind fun y5 => ((recall_walls_c f p0 (diffV y5 y2)).bind fun y23 => some y23.2)))
theorem recall_doubt_le (f:Nat) (p0:TL) (p1:(List Int)) : LeO (recall_doubt_c f p0 p1) (recall_doubt p0 p1):=by
 unfold recall_doubt_c recall_doubt
 repeat' first
  | with_reducible first | apply LeO.bind | apply recall_possible_le | apply recall_sure_le | apply recall_walls_le | apply LeO.guard | apply LeO.ite | apply LeO.loop | apply LeO.fold | exact LeO.refl _
  | (intro (u:Sum _ _); cases u <;> dsimp only)
  | intro _
def slices_Clone_Hop_Hop_c (f:Nat) (p0:(List TH)) : Option (List TH) :=
 guardO (0 + p0.length ≤ 1000000000) (some (([]:List TH) ++ p0))
theorem slices_Clone_Hop_Hop_le (f:Nat) (p0:(List TH)) : LeO (slices_Clone_Hop_Hop_c f p0) (slices_Clone_Hop_Hop p0):=by
 unfold slices_Clone_Hop_Hop_c slices_Clone_Hop_Hop
 repeat' first
  | with_reducible first | apply LeO.bind | apply LeO.guard | apply LeO.ite | apply LeO.loop | apply LeO.fold | exact LeO.refl _
  | (intro (u:Sum _ _); cases u <;> dsimp only)
  | intro _
def slices_Clone_Node_Node_c (f:Nat) (p0:(List TN)) : Option (List TN) :=
 guardO (0 + p0.length ≤ 1000000000) (some (([]:List TN) ++ p0))
theorem slices_Clone_Node_Node_le (f:Nat) (p0:(List TN)) : LeO (slices_Clone_Node_Node_c f p0) (slices_Clone_Node_Node p0):=by
 unfold slices_Clone_Node_Node_c slices_Clone_Node_Node
 repeat' first
  | with_reducible first | apply LeO.bind | apply LeO.guard | apply LeO.ite | apply LeO.loop | apply LeO.fold | exact LeO.refl _
  | (intro (u:Sum _ _); cases u <;> dsimp only)
  | intro _
def slices_Clone_Claim_Claim_c (f:Nat) (p0:(List TC)) : Option (List TC) :=
 guardO (0 + p0.length ≤ 1000000000) (some (([]:List TC) ++ p0))
theorem slices_Clone_Claim_Claim_le (f:Nat) (p0:(List TC)) : LeO (slices_Clone_Claim_Claim_c f p0) (slices_Clone_Claim_Claim p0):=by
 unfold slices_Clone_Claim_Claim_c slices_Clone_Claim_Claim
 repeat' first
  | with_reducible first | apply LeO.bind | apply LeO.guard | apply LeO.ite | apply LeO.loop | apply LeO.fold | exact LeO.refl _
  | (intro (u:Sum _ _); cases u <;> dsimp only)
  | intro _
def recall_copied_l1_c (f:Nat) (y10:(List TC)) (s22:(Int × (List TC))) : Option ((Int × (List TC)) ⊕ (Int × (List TC))) :=
 (if decide (s22.1 < (y10.length:Int)) = true then guardO ((0:Int) ≤ s22.1 ∧ s22.1 < (y10.length:Int)) (((slices_Clone_Hop_Hop_c f ((rdL s22.2 s22.1).fO)).bind fun y26 => guardO ((0:Int) ≤ s22.1 ∧ s22.1 < (y10.length:Int)) (some (.inl (w64 (s22.1 + 1),(s22.2.set (Int.toNat s22.1) (TC.mk ((rdL s22.2 s22.1).fID) y26))))))) else some (.inr (s22.1,s22.2)))
theorem recall_copied_l1_le (f:Nat) (y10:(List TC)) (s22:(Int × (List TC))) : LeO (recall_copied_l1_c f y10 s22) (recall_copied_l1 y10 s22):=by
 unfold recall_copied_l1_c recall_copied_l1
 repeat' first
  | with_reducible first | apply LeO.bind | apply slices_Clone_Hop_Hop_le | apply LeO.guard | apply LeO.ite | apply LeO.loop | apply LeO.fold | exact LeO.refl _
  | (intro (u:Sum _ _); cases u <;> dsimp only)
  | intro _
def recall_copied_c (f:Nat) (p0:TL) : Option TL :=
 ((slices_Clone_Node_Node_c f p0.fNo).bind fun y4 => ((slices_Clone_Claim_Claim_c f p0.fC).bind fun y10 => ((loopF f (recall_copied_l1_c f y10) (0,y10)).bind fun u23 => some (TL.mk y4 u23.2))))
theorem recall_copied_le (f:Nat) (p0:TL) : LeO (recall_copied_c f p0) (recall_copied p0):=by
 unfold recall_copied_c recall_copied
 repeat' first
  | with_reducible first | apply LeO.bind | apply recall_copied_l1_le | apply slices_Clone_Claim_Claim_le | apply slices_Clone_Node_Node_le | apply LeO.guard | apply LeO.ite | apply LeO.loop | apply LeO.fold | exact LeO.refl _
  | (intro (u:Sum _ _); cases u <;> dsimp only)
  | intro _
def recall_told_c (f:Nat) (p0:TL) (p1:Int) (p2:(List TH)) : Option TL :=
 ((recall_copied_c f p0).bind fun y3 => ((slices_Clone_Hop_Hop_c f p2).bind fun y22 => guardO ((0:Int) ≤ p1 ∧ p1 < (y3.fC.length:Int)) (some (TL.mk y3.fNo (y3.fC.set (Int.toNat p1) (TC.mk ((rdL y3.fC p1).fID) y22))))))
theorem recall_told_le (f:Nat) (p0:TL) (p1:Int) (p2:(List TH)) : LeO (recall_told_c f p0 p1 p2) (recall_told p0 p1 p2):=by
 unfold recall_told_c recall_told
 repeat' first
  | with_reducible first | apply LeO.bind | apply recall_copied_le | apply slices_Clone_Hop_Hop_le | apply LeO.guard | apply LeO.ite | apply LeO.loop | apply LeO.fold | exact LeO.refl _
  | (intro (u:Sum _ _); cases u <;> dsimp only)
  | intro _
def recall_least_calx_recall_asking_l1_c (f:Nat) (p0:(List Tasking)) (p1:Tasking → Tasking → Option Bool) (s5:(Int × Int × Int)) : Option ((Int × Int × Int) ⊕ (Int × Int × Int)) :=
 (if decide (s5.1 < (p0.length:Int)) = true then guardO ((0:Int) ≤ s5.1 ∧ s5.1 < (p0.length:Int)) (((if (s5.1 == 0) = true then (some (true)) else ((p1 (Tasking.mk ((rdL p0 s5.1).f_id) ((rdL p0 s5.1).f_left)) (Tasking.mk s5.2.1 s5.2.2)).bind fun y14 => some (y14))).bind fun b11 => (if b11 = true then some (.inl (w64 (s5.1 + 1),(rdL p0 s5.1).f_id,(rdL p0 s5.1).f_left)) else some (.inl (w64 (s5.1 + 1),s5.2.1,s5.2.2))))) else some (.inr (s5.1,s5.2.1,s5.2.2)))
theorem recall_least_calx_recall_asking_l1_le (f:Nat) (p0:(List Tasking)) (p1 p1' : Tasking → Tasking → Option Bool) (hp1_less:∀ x0 x1,LeO (p1 x0 x1) (p1' x0 x1)) (s5:(Int × Int × Int)) : LeO (recall_least_calx_recall_asking_l1_c f p0 p1 s5) (recall_least_calx_recall_asking_l1 p0 p1' s5):=by
 unfold recall_least_calx_recall_asking_l1_c recall_least_calx_recall_asking_l1
 repeat' first
  | with_reducible first | apply LeO.bind | apply hp1_less | apply LeO.guard | apply LeO.ite | apply LeO.loop | apply LeO.fold | exact LeO.refl _
  | (intro (u:Sum _ _); cases u <;> dsimp only)
  | intro _
def recall_least_calx_recall_asking_c (f:Nat) (p0:(List Tasking)) (p1:Tasking → Tasking → Option Bool) : Option (Tasking × Bool) :=
 ((loopF f (recall_least_calx_recall_asking_l1_c f p0 p1) (0,0,0)).bind fun u6 => some ((Tasking.mk u6.2.1 u6.2.2),decide (0 < (p0.length:Int))))
theorem recall_least_calx_recall_asking_le (f:Nat) (p0:(List Tasking)) (p1 p1' : Tasking → Tasking → Option Bool) (hp1_less:∀ x0 x1,LeO (p1 x0 x1) (p1' x0 x1)) : LeO (recall_least_calx_recall_asking_c f p0 p1) (recall_least_calx_recall_asking p0 p1'):=by
 unfold recall_least_calx_recall_asking_c recall_least_calx_recall_asking
 repeat' first
  | with_reducible first | apply LeO.bind | apply hp1_less | apply recall_least_calx_recall_asking_l1_le | apply LeO.guard | apply LeO.ite | apply LeO.loop | apply LeO.fold | exact LeO.refl _
  | (intro (u:Sum _ _); cases u <;> dsimp only)
  | intro _
def recall_Ask_1_c (f:Nat) (p0:Tasking) (p1:Tasking) : Option Bool :=
 some ((decide (p0.f_left < p1.f_left)) || ((p0.f_left == p1.f_left) && (decide (p0.f_id < p1.f_id))))
theorem recall_Ask_1_le (f:Nat) (p0:Tasking) (p1:Tasking) : LeO (recall_Ask_1_c f p0 p1) (recall_Ask_1 p0 p1):=by
 unfold recall_Ask_1_c recall_Ask_1
 repeat' first
  | with_reducible first | apply LeO.bind | apply LeO.guard | apply LeO.ite | apply LeO.loop | apply LeO.fold | exact LeO.refl _
  | (intro (u:Sum _ _); cases u <;> dsimp only)
  | intro _
def recall_Ask_l2_c (f:Nat) (p0:TL) (p1:(List Int)) (s7:(Int × (List Tasking))) (s16:(Int × Int)) : Option ((Int × Int) ⊕ (Int × Int)) :=
 (if decide (s16.1 < (((rdL p0.fC s7.1).fO.length : Nat) : Int)) = true then guardO ((0:Int) ≤ s16.1 ∧ s16.1 ≤ w64 (s16.1 + 1) ∧ w64 (s16.1 + 1) ≤ w64 (s16.1 + 1) ∧ w64 (s16.1 + 1) ≤ (((rdL p0.fC s7.1).fO.length : Nat) : Int)) (((recall_told_c f p0 s7.1 ((((rdL p0.fC s7.1).fO).drop (Int.toNat s16.1)).take (Int.toNat (w64 (s16.1 + 1)) - Int.toNat s16.1))).bind fun y20 => ((recall_doubt_c f y20 p1).bind fun y34 => some (.inl (w64 (s16.1 + 1),max s16.2 y34))))) else some (.inr (s16.1,s16.2)))
theorem recall_Ask_l2_le (f:Nat) (p0:TL) (p1:(List Int)) (s7:(Int × (List Tasking))) (s16:(Int × Int)) : LeO (recall_Ask_l2_c f p0 p1 s7 s16) (recall_Ask_l2 p0 p1 s7 s16):=by
 unfold recall_Ask_l2_c recall_Ask_l2
 repeat' first
  | with_reducible first | apply LeO.bind | apply recall_doubt_le | apply recall_told_le | apply LeO.guard | apply LeO.ite | apply LeO.loop | apply LeO.fold | exact LeO.refl _
  | (intro (u:Sum _ _); cases u <;> dsimp only)
  | intro _
def recall_Ask_l1_c (f:Nat) (p0:TL) (p1:(List Int)) (s7:(Int × (List Tasking))) : Option ((Int × (List Tasking)) ⊕ (Int × (List Tasking))) :=
 (if decide (s7.1 < (p0.fC.length:Int)) = true then guardO ((0:Int) ≤ s7.1 ∧ s7.1 < (p0.fC.length:Int)) ((if decide ((((rdL p0.fC s7.1).fO.length : Nat) : Int) < 2) = true then some (.inl (w64 (s7.1 + 1),s7.2)) else ((loopF f (recall_Ask_l2_c f p0 p1 s7) (0,0)).bind fun u17 => guardO (s7.2.length + 1 ≤ 1000000000) (some (.inl (w64 (s7.1 + 1),(s7.2 ++ [(Tasking.mk ((rdL p0.fC s7.1).fID) u17.2)]))))))) else some (.inr (s7.1,s7.2)))
theorem recall_Ask_l1_le (f:Nat) (p0:TL) (p1:(List Int)) (s7:(Int × (List Tasking))) : LeO (recall_Ask_l1_c f p0 p1 s7) (recall_Ask_l1 p0 p1 s7):=by
 unfold recall_Ask_l1_c recall_Ask_l1
 repeat' first
  | with_reducible first | apply LeO.bind | apply recall_Ask_l2_le | apply LeO.guard | apply LeO.ite | apply LeO.loop | apply LeO.fold | exact LeO.refl _
  | (intro (u:Sum _ _); cases u <;> dsimp only)
  | intro _
def recall_Ask_c (f:Nat) (p0:TL) (p1:(List Int)) : Option (Int × Int × Int) :=
 ((recall_asked_c f p0 p1).bind fun y2 => (if (y2 != 0) = true then some (0,0,y2) else ((loopF f (recall_Ask_l1_c f p0 p1) (0,([]:List Tasking))).bind fun u8 => ((recall_least_calx_recall_asking_c f u8.2 (fun x54 x55 => recall_Ask_1_c f x54 x55)).bind fun y56 => (if (!y56.2) = true then some (0,0,5) else some (y56.1.f_id,y56.1.f_left,0))))))
theorem recall_Ask_le (f:Nat) (p0:TL) (p1:(List Int)) : LeO (recall_Ask_c f p0 p1) (recall_Ask p0 p1):=by
 unfold recall_Ask_c recall_Ask
 repeat' first
  | with_reducible first | apply LeO.bind | apply recall_Ask_1_le | apply recall_Ask_l1_le | apply recall_asked_le | apply recall_least_calx_recall_asking_le | apply LeO.guard | apply LeO.ite | apply LeO.loop | apply LeO.fold | exact LeO.refl _
  | (intro (u:Sum _ _); cases u <;> dsimp only)
  | intro _
def recall_isCut_1_c (f:Nat) (p0:Int) (p1:Int) (cap0:(List (Int × Bool))) (cap1:TL) : Option Bool :=
 guardO ((0:Int) ≤ p0 ∧ p0 < (cap1.fC.length:Int)) (guardO (rngB ((rdL cap1.fC p0).fID) = true) (some (!(mgetV false cap0 ((rdL cap1.fC p0).fID)))))
theorem recall_isCut_1_le (f:Nat) (p0:Int) (p1:Int) (cap0:(List (Int × Bool))) (cap1:TL) : LeO (recall_isCut_1_c f p0 p1 cap0 cap1) (recall_isCut_1 p0 p1 cap0 cap1):=by
 unfold recall_isCut_1_c recall_isCut_1
 repeat' first
  | with_reducible first | apply LeO.bind | apply LeO.guard | apply LeO.ite | apply LeO.loop | apply LeO.fold | exact LeO.refl _
  | (intro (u:Sum _ _); cases u <;> dsimp only)
  | intro _
def recall_isCut_c (f:Nat) (p0:TL) (p1:(List Int)) (p2:Int) (p3:(List (Int × Bool))) : Option Bool :=
 ((recall_maybe_c f p0 p1 p2 (fun x3 x4 => recall_isCut_1_c f x3 x4 p3 p0)).bind fun y5 => some (!y5))
theorem recall_isCut_le (f:Nat) (p0:TL) (p1:(List Int)) (p2:Int) (p3:(List (Int × Bool))) : LeO (recall_isCut_c f p0 p1 p2 p3) (recall_isCut p0 p1 p2 p3):=by
 unfold recall_isCut_c recall_isCut
 repeat' first
  | with_reducible first | apply LeO.bind | apply recall_isCut_1_le | apply recall_maybe_le | apply LeO.guard | apply LeO.ite | apply LeO.loop | apply LeO.fold | exact LeO.refl _
  | (intro (u:Sum _ _); cases u <;> dsimp only)
  | intro _
def recall_Cut_l1_c (f:Nat) (p0:TL) (s11:(Int × (List (Int × Bool)))) : Option ((Int × (List (Int × Bool))) ⊕ (Int × (List (Int × Bool)))) :=
 (if decide (s11.1 < (p0.fC.length:Int)) = true then guardO ((0:Int) ≤ s11.1 ∧ s11.1 < (p0.fC.length:Int)) (guardO (rngB ((rdL p0.fC s11.1).fID) = true ∧ List.length s11.2 < 1000000) (some (.inl (w64 (s11.1 + 1),(((rdL p0.fC s11.1).fID,true) :: s11.2))))) else some (.inr (s11.1,s11.2)))
theorem recall_Cut_l1_le (f:Nat) (p0:TL) (s11:(Int × (List (Int × Bool)))) : LeO (recall_Cut_l1_c f p0 s11) (recall_Cut_l1 p0 s11):=by
 unfold recall_Cut_l1_c recall_Cut_l1
 repeat' first
  | with_reducible first | apply LeO.bind | apply LeO.guard | apply LeO.ite | apply LeO.loop | apply LeO.fold | exact LeO.refl _
  | (intro (u:Sum _ _); cases u <;> dsimp only)
  | intro _
def recall_Cut_l2_c (f:Nat) (p0:TL) (p1:(List Int)) (p2:Int) (y18:(List Int)) (s26:(Int × (List (Int × Bool)))) : Option ((Int × (List (Int × Bool))) ⊕ (Int × (List (Int × Bool)))) :=
 (if decide (s26.1 < (y18.length:Int)) = true then guardO ((0:Int) ≤ s26.1 ∧ s26.1 < (y18.length:Int)) (guardO (rngB (rdL y18 s26.1) = true ∧ List.length s26.2 < 1000000) (((recall_isCut_c f p0 p1 p2 (((rdL y18 s26.1),false) :: s26.2)).bind fun y31 => (if (!y31) = true then guardO (rngB (rdL y18 s26.1) = true ∧ List.length (((rdL y18 s26.1),false) :: s26.2) < 1000000) (some (.inl (w64 (s26.1 + 1),(((rdL y18 s26.1),true) :: (((rdL y18 s26.1),false) :: s26.2))))) else some (.inl (w64 (s26.1 + 1),(((rdL y18 s26.1),false) :: s26.2))))))) else some (.inr (s26.1,s26.2)))
theorem recall_Cut_l2_le (f:Nat) (p0:TL) (p1:(List Int)) (p2:Int) (y18:(List Int)) (s26:(Int × (List (Int × Bool)))) : LeO (recall_Cut_l2_c f p0 p1 p2 y18 s26) (recall_Cut_l2 p0 p1 p2 y18 s26):=by
 unfold recall_Cut_l2_c recall_Cut_l2
 repeat' first
  | with_reducible first | apply LeO.bind | apply recall_isCut_le | apply LeO.guard | apply LeO.ite | apply LeO.loop | apply LeO.fold | exact LeO.refl _
  | (intro (u:Sum _ _); cases u <;> dsimp only)
  | intro _
def recall_Cut_c (f:Nat) (p0:TL) (p1:(List Int)) (p2:Int) : Option ((List Int) × Int) :=
 ((recall_askedTo_c f p0 p1 p2).bind fun y2 => (if (y2 != 0) = true then some ([],y2) else ((slices_Contains_int_int_c f p1 p2).bind fun y5 => (if y5 = true then some ([],5) else ((loopF f (recall_Cut_l1_c f p0) (0,[])).bind fun u12 => ((recall_listed u12.2).bind fun y18 => ((loopF f (recall_Cut_l2_c f p0 p1 p2 y18) (0,u12.2)).bind fun u27 => ((recall_listed u27.2).bind fun y36 => some (y36,0)))))))))
theorem recall_Cut_le (f:Nat) (p0:TL) (p1:(List Int)) (p2:Int) : LeO (recall_Cut_c f p0 p1 p2) (recall_Cut p0 p1 p2):=by
 unfold recall_Cut_c recall_Cut
 repeat' first
  | with_reducible first | apply LeO.bind | apply recall_Cut_l1_le | apply recall_Cut_l2_le | apply recall_askedTo_le | apply slices_Contains_int_int_le | apply LeO.guard | apply LeO.ite | apply LeO.loop | apply LeO.fold | exact LeO.refl _
  | (intro (u:Sum _ _); cases u <;> dsimp only)
  | intro _
def recall_Surely_c (f:Nat) (p0:TL) (p1:(List Int)) : Option ((List Int) × Int) :=
 ((recall_asked_c f p0 p1).bind fun y2 => (if (y2 != 0) = true then some ([],y2) else ((recall_sure_c f p0 p1).bind fun y5 => ((recall_listed y5).bind fun y8 => some (y8,0)))))
theorem recall_Surely_le (f:Nat) (p0:TL) (p1:(List Int)) : LeO (recall_Surely_c f p0 p1) (recall_Surely p0 p1):=by
 unfold recall_Surely_c recall_Surely
 repeat' first
  | with_reducible first | apply LeO.bind | apply recall_asked_le | apply recall_sure_le | apply LeO.guard | apply LeO.ite | apply LeO.loop | apply LeO.fold | exact LeO.refl _
  | (intro (u:Sum _ _); cases u <;> dsimp only)
  | intro _
def recall_Possibly_c (f:Nat) (p0:TL) (p1:(List Int)) : Option ((List Int) × Int) :=
 ((recall_asked_c f p0 p1).bind fun y2 => (if (y2 != 0) = true then some ([],y2) else ((recall_possible_c f p0 p1).bind fun y5 => ((recall_listed y5).bind fun y8 => some (y8,0)))))
theorem recall_Possibly_le (f:Nat) (p0:TL) (p1:(List Int)) : LeO (recall_Possibly_c f p0 p1) (recall_Possibly p0 p1):=by
 unfold recall_Possibly_c recall_Possibly
 repeat' first
  | with_reducible first | apply LeO.bind | apply recall_asked_le | apply recall_possible_le | apply LeO.guard | apply LeO.ite | apply LeO.loop | apply LeO.fold | exact LeO.refl _
  | (intro (u:Sum _ _); cases u <;> dsimp only)
  | intro _
def calxlaw09_Example_c (f:Nat)  : Option TL :=
 some (TL.mk [(TN.mk 1 0 0),(TN.mk 2 0 0),(TN.mk 3 3 0),(TN.mk 4 3 0),(TN.mk 5 9 10),(TN.mk 6 9 7)] [(TC.mk 11 [(TH.mk 1 3)]),(TC.mk 12 [(TH.mk 1 4),(TH.mk 2 4)]),(TC.mk 13 [(TH.mk 3 5)]),(TC.mk 14 [(TH.mk 4 5),(TH.mk 4 6)])])
theorem calxlaw09_Example_le (f:Nat) : LeO (calxlaw09_Example_c f) (calxlaw09_Example):=by
 unfold calxlaw09_Example_c calxlaw09_Example
 repeat' first
  | with_reducible first | apply LeO.bind | apply LeO.guard | apply LeO.ite | apply LeO.loop | apply LeO.fold | exact LeO.refl _
  | (intro (u:Sum _ _); cases u <;> dsimp only)
  | intro _
def recall_Cases_r1_c (f:Nat) (s19:Int) (x20:(List Int)) : Option (Int ⊕ Unit) :=
 some (.inl (w64 (s19 + 1)))
theorem recall_Cases_r1_le (f:Nat) (s19:Int) (x20:(List Int)) : LeO (recall_Cases_r1_c f s19 x20) (recall_Cases_r1 s19 x20):=by
 unfold recall_Cases_r1_c recall_Cases_r1
 repeat' first
  | with_reducible first | apply LeO.bind | apply LeO.guard | apply LeO.ite | apply LeO.loop | apply LeO.fold | exact LeO.refl _
  | (intro (u:Sum _ _); cases u <;> dsimp only)
  | intro _
def recall_Cases_c (f:Nat) (p0:TL) : Option (Int × Int) :=
 ((recall_Check_c f p0).bind fun y2 => (if (y2 != 0) = true then some (0,y2) else ((recall_cases_c f p0).bind fun y6 => (guardO (seqCases_ok p0) ((foldO (recall_Cases_r1_c f) (sCs p0) 0).bind fun u21 => match u21 with | .inl u24 => some (u24,0) | .inr _ => none)))))
theorem recall_Cases_le (f:Nat) (p0:TL) : LeO (recall_Cases_c f p0) (recall_Cases p0):=by
 unfold recall_Cases_c recall_Cases
 repeat' first
  | with_reducible first | apply LeO.bind | apply recall_Cases_r1_le | apply recall_Check_le | apply recall_cases_le | apply LeO.guard | apply LeO.ite | apply LeO.loop | apply LeO.fold | exact LeO.refl _
  | (intro (u:Sum _ _); cases u <;> dsimp only)
  | intro _
def calxlaw09_head_c (f:Nat)  : Option Bool :=
 ((calxlaw09_Example_c f).bind fun y1 => ((recall_Cases_c f y1).bind fun y20 => ((recall_Surely_c f y1 [1]).bind fun y23 => ((recall_Possibly_c f y1 [2]).bind fun y30 => ((recall_Hangs_c f y1 [1] 6).bind fun y37 => ((recall_Gates_c f y1 [1] 6).bind fun y44 => ((recall_Cut_c f y1 [1] 5).bind fun y51 => ((recall_Share_c f y1 [2] 5).bind fun y58 => ((recall_Recall_c f y1 [1] false).bind fun y62 => ((recall_Ask_c f y1 [1]).bind fun y69 => ((recall_Origins_c f y1 5).bind fun y71 => (if ((((((((((y20.2 != 0) || (y23.2 != 0)) || (y30.2 != 0)) || (y37.2 != 0)) || (y44.2 != 0)) || (y51.2 != 0)) || (y58.2 != 0)) || (y62.2.2 != 0)) || (y69.2.2 != 0)) || (y71.2.2 != 0)) = true then some false else ((ref09_SameInts_c f y23.1 [1,3,5]).bind fun y92 => ((if y92 = true then ((ref09_SameInts_c f y30.1 [2,4,5,6]).bind fun y137 => some (y137)) else (some (false))).bind fun b95 => ((if b95 = true then ((ref09_SameInts_c f y37.1 [12,14]).bind fun y134 => some (y134)) else (some (false))).bind fun b98 => ((if b98 = true then ((ref09_SameInts_c f y44.1 [4]).bind fun y131 => some (y131)) else (some (false))).bind fun b101 => ((ref09_SameInts_c f y51.1 [13,14]).bind fun y104 => ((if y104 = true then ((ref09_SameInts_c f y62.1 [5,6]).bind fun y128 => some (y128)) else (some (false))).bind fun b107 => ((if b107 = true then ((ref09_SameInts_c f y71.1 [1]).bind fun y125 => some (y125)) else (some (false))).bind fun b110 => ((if b110 = true then ((ref09_SameInts_c f y71.2.1 [1,2]).bind fun y122 => some (y122)) else (some (false))).bind fun b113 => some ((((((b101 && b113) && (y20.1 == 4)) && ((y58.1.fNum == 1) && (y58.1.fDen == 4))) && (y62.2.1 == 17)) && (y69.1 == 12)) && (y69.2.1 == 7))))))))))))))))))))))
theorem calxlaw09_head_le (f:Nat) : LeO (calxlaw09_head_c f) (calxlaw09_head):=by
 unfold calxlaw09_head_c calxlaw09_head
 repeat' first
  | with_reducible first | apply LeO.bind | apply calxlaw09_Example_le | apply ref09_SameInts_le | apply recall_Ask_le | apply recall_Cases_le | apply recall_Cut_le | apply recall_Gates_le | apply recall_Hangs_le | apply recall_Origins_le | apply recall_Possibly_le | apply recall_Recall_le | apply recall_Share_le | apply recall_Surely_le | apply LeO.guard | apply LeO.ite | apply LeO.loop | apply LeO.fold | exact LeO.refl _
  | (intro (u:Sum _ _); cases u <;> dsimp only)
  | intro _
end Go.Proofs.YtbblpokfbmekfaaGreat
