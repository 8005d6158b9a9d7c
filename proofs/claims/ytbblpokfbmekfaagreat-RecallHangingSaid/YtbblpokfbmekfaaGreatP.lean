import Derived.Test.YtbblpokfbmekfaaGreatGt
set_option linter.unusedVariables false
namespace Go.Proofs.YtbblpokfbmekfaaGreat
noncomputable section
structure TN where
 fID : Int
 fLevel : Int
 fCost : Int
 deriving DecidableEq
instance : Inhabited TN:=⟨⟨default,default,default⟩⟩
def TNode_rg (x:TN) : Prop:=Rg_i64 x.fID ∧ Rg_i64 x.fLevel ∧ Rg_i64 x.fCost
structure TH where
 fFrom : Int
 fTo : Int
 deriving DecidableEq
instance : Inhabited TH:=⟨⟨default,default⟩⟩
def THop_rg (x:TH) : Prop:=Rg_i64 x.fFrom ∧ Rg_i64 x.fTo
structure TC where
 fID : Int
 fO : (List TH)
 deriving DecidableEq
instance : Inhabited TC:=⟨⟨default,default⟩⟩
def TClaim_rg (x:TC) : Prop:=Rg_i64 x.fID ∧ (Rg_list THop_rg x.fO)
structure TL where
 fNo : (List TN)
 fC : (List TC)
 deriving DecidableEq
instance : Inhabited TL:=⟨⟨default,default⟩⟩
def TLineage_rg (x:TL) : Prop:=(Rg_list TNode_rg x.fNo) ∧ (Rg_list TClaim_rg x.fC)
structure TRatio where
 fNum : Int
 fDen : Int
 deriving DecidableEq
instance : Inhabited TRatio:=⟨⟨default,default⟩⟩
def TRatio_rg (x:TRatio) : Prop:=Rg_i64 x.fNum ∧ Rg_i64 x.fDen
structure Tasking where
 f_id : Int
 f_left : Int
 deriving DecidableEq
instance : Inhabited Tasking:=⟨⟨default,default⟩⟩
def Tasking_rg (x:Tasking) : Prop:=Rg_i64 x.f_id ∧ Rg_i64 x.f_left
structure TTwo where
 fA : (List Int)
 fB : (List Int)
 fE : Int
 deriving DecidableEq
instance : Inhabited TTwo:=⟨⟨default,default,default⟩⟩
def TTwo_rg (x:TTwo) : Prop:=(Rg_list Rg_i64 x.fA) ∧ (Rg_list Rg_i64 x.fB) ∧ Rg_i64 x.fE
structure TBill where
 fL : (List Int)
 fN : Int
 fE : Int
 deriving DecidableEq
instance : Inhabited TBill:=⟨⟨default,default,default⟩⟩
def TBill_rg (x:TBill) : Prop:=(Rg_list Rg_i64 x.fL) ∧ Rg_i64 x.fN ∧ Rg_i64 x.fE
structure TInts where
 fL : (List Int)
 fE : Int
 deriving DecidableEq
instance : Inhabited TInts:=⟨⟨default,default⟩⟩
def TInts_rg (x:TInts) : Prop:=(Rg_list Rg_i64 x.fL) ∧ Rg_i64 x.fE
structure TTrace where
 fCase : (List Int)
 fC : (List Int)
 deriving DecidableEq
instance : Inhabited TTrace:=⟨⟨default,default⟩⟩
def TTrace_rg (x:TTrace) : Prop:=(Rg_list Rg_i64 x.fCase) ∧ (Rg_list Rg_i64 x.fC)
structure TMade where
 fL : TL
 fE : Int
 deriving DecidableEq
instance : Inhabited TMade:=⟨⟨default,default⟩⟩
def TMade_rg (x:TMade) : Prop:=(Rg_list TNode_rg x.fL.fNo) ∧ (Rg_list TClaim_rg x.fL.fC) ∧ Rg_i64 x.fE
def slices_IndexFunc_Node_Node_l1 (p0:(List TN)) (p1:TN → Option Bool) (s2:(Int × Int)) : Option ((Int × Int) ⊕ ((Int × Int) ⊕ (Int × Int))) :=
 (if decide (s2.2 < (p0.length:Int)) = true then guardO ((0:Int) ≤ s2.2 ∧ s2.2 < (p0.length:Int)) (((p1 (TN.mk ((rdL p0 s2.2).fID) ((rdL p0 s2.2).fLevel) ((rdL p0 s2.2).fCost))).bind fun y6 => (if y6 = true then some (.inr (.inl (s2.2,s2.2))) else some (.inl (s2.1,w64 (s2.2 + 1)))))) else some (.inr (.inr (s2.1,s2.2))))
def slices_IndexFunc_Node_Node (p0:(List TN)) (p1:TN → Option Bool) : Option Int :=
 ((loopO (slices_IndexFunc_Node_Node_l1 p0 p1) (0,0)).bind fun u3 => match u3 with | (.inl u10) => some u10.1 | (.inr u11) => some (-1))
def recall_nodeOf_1 (p0:TN) (cap0:Int) : Option Bool :=
 some (p0.fID == cap0)
def recall_nodeOf (p0:TL) (p1:Int) : Option Int :=
 ((slices_IndexFunc_Node_Node p0.fNo (fun x3 => recall_nodeOf_1 x3 p1)).bind fun y4 => some y4)
def slices_IndexFunc_Claim_Claim_l1 (p0:(List TC)) (p1:TC → Option Bool) (s2:(Int × Int)) : Option ((Int × Int) ⊕ ((Int × Int) ⊕ (Int × Int))) :=
 (if decide (s2.2 < (p0.length:Int)) = true then guardO ((0:Int) ≤ s2.2 ∧ s2.2 < (p0.length:Int)) (((p1 (TC.mk ((rdL p0 s2.2).fID) ((rdL p0 s2.2).fO))).bind fun y6 => (if y6 = true then some (.inr (.inl (s2.2,s2.2))) else some (.inl (s2.1,w64 (s2.2 + 1)))))) else some (.inr (.inr (s2.1,s2.2))))
def slices_IndexFunc_Claim_Claim (p0:(List TC)) (p1:TC → Option Bool) : Option Int :=
 ((loopO (slices_IndexFunc_Claim_Claim_l1 p0 p1) (0,0)).bind fun u3 => match u3 with | (.inl u10) => some u10.1 | (.inr u11) => some (-1))
def recall_linkOf_1 (p0:TC) (cap0:Int) : Option Bool :=
 some (p0.fID == cap0)
def recall_linkOf (p0:TL) (p1:Int) : Option Int :=
 ((slices_IndexFunc_Claim_Claim p0.fC (fun x3 => recall_linkOf_1 x3 p1)).bind fun y4 => some y4)
def recall_within (p0:Int) (p1:Int) (p2:Int) : Option Bool :=
 some ((decide (p1 ≤ p0)) && (decide (p0 ≤ p2)))
def slices_Index_Hop_Hop_l1 (p0:(List TH)) (p1:TH) (s3:(Int × Int)) : Option ((Int × Int) ⊕ ((Int × Int) ⊕ (Int × Int))) :=
 (if decide (s3.2 < (p0.length:Int)) = true then guardO ((0:Int) ≤ s3.2 ∧ s3.2 < (p0.length:Int)) ((if ((p1.fFrom == (rdL p0 s3.2).fFrom) && (p1.fTo == (rdL p0 s3.2).fTo)) = true then some (.inr (.inl (s3.2,s3.2))) else some (.inl (s3.1,w64 (s3.2 + 1))))) else some (.inr (.inr (s3.1,s3.2))))
def slices_Index_Hop_Hop (p0:(List TH)) (p1:TH) : Option Int :=
 ((loopO (slices_Index_Hop_Hop_l1 p0 p1) (0,0)).bind fun u4 => match u4 with | (.inl u9) => some u9.1 | (.inr u10) => some (-1))
def slices_Contains_Hop_Hop (p0:(List TH)) (p1:TH) : Option Bool :=
 ((slices_Index_Hop_Hop p0 p1).bind fun y2 => some (decide (0 ≤ y2)))
def recall_options_l1 (p0:TL) (p1:(List TH)) (s6:(Bool × Int)) : Option ((Bool × Int) ⊕ ((Bool × Int) ⊕ (Bool × Int))) :=
 (if decide (s6.2 < (p1.length:Int)) = true then guardO ((0:Int) ≤ s6.2 ∧ s6.2 < (p1.length:Int)) (((recall_nodeOf p0 ((rdL p1 s6.2).fFrom)).bind fun y11 => ((recall_nodeOf p0 ((rdL p1 s6.2).fTo)).bind fun y13 => ((if ((decide (y11 < 0)) || (decide (y13 < 0))) = true then (some (true)) else (guardO ((0:Int) ≤ y11 ∧ y11 < (p0.fNo.length:Int)) (guardO ((0:Int) ≤ y13 ∧ y13 < (p0.fNo.length:Int)) (some (decide ((rdL p0.fNo y13).fLevel ≤ (rdL p0.fNo y11).fLevel)))))).bind fun b17 => ((if b17 = true then (some (true)) else (guardO ((0:Int) ≤ s6.2 ∧ s6.2 ≤ (p1.length:Int)) (((slices_Contains_Hop_Hop (p1.take (Int.toNat s6.2)) (TH.mk ((rdL p1 s6.2).fFrom) ((rdL p1 s6.2).fTo))).bind fun y24 => some (y24))))).bind fun b20 => (if b20 = true then some (.inr (.inl (false,s6.2))) else some (.inl (s6.1,w64 (s6.2 + 1))))))))) else some (.inr (.inr (s6.1,s6.2))))
def recall_options (p0:TL) (p1:(List TH)) : Option Bool :=
 ((recall_within (p1.length:Int) 1 4).bind fun y2 => (if (!y2) = true then some false else ((loopO (recall_options_l1 p0 p1) (false,0)).bind fun u7 => match u7 with | (.inl u29) => some u29.1 | (.inr u30) => some true)))
def recall_Check_l1 (p0:TL) (s5:(Int × Int)) : Option ((Int × Int) ⊕ ((Int × Int) ⊕ (Int × Int))) :=
 (if decide (s5.2 < (p0.fNo.length:Int)) = true then guardO ((0:Int) ≤ s5.2 ∧ s5.2 < (p0.fNo.length:Int)) (((recall_within ((rdL p0.fNo s5.2).fID) 1 1099511627776).bind fun y10 => ((if (!y10) = true then (some (true)) else ((recall_within ((rdL p0.fNo s5.2).fLevel) 0 9).bind fun y24 => some ((!y24)))).bind fun b13 => ((if b13 = true then (some (true)) else ((recall_within ((rdL p0.fNo s5.2).fCost) 0 1073741824).bind fun y22 => some ((!y22)))).bind fun b16 => (if b16 = true then some (.inr (.inl (1,s5.2))) else ((recall_nodeOf p0 ((rdL p0.fNo s5.2).fID)).bind fun y19 => (if decide (y19 < s5.2) = true then some (.inr (.inl (6,s5.2))) else some (.inl (s5.1,w64 (s5.2 + 1)))))))))) else some (.inr (.inr (s5.1,s5.2))))
def recall_Check_l2 (p0:TL) (s30:(Int × Int × Int)) : Option ((Int × Int × Int) ⊕ ((Int × Int × Int) ⊕ (Int × Int × Int))) :=
 (if decide (s30.2.2 < (p0.fC.length:Int)) = true then guardO ((0:Int) ≤ s30.2.2 ∧ s30.2.2 < (p0.fC.length:Int)) (((recall_within ((rdL p0.fC s30.2.2).fID) 1 1099511627776).bind fun y35 => ((if (!y35) = true then (some (true)) else ((recall_options p0 ((rdL p0.fC s30.2.2).fO)).bind fun y44 => some ((!y44)))).bind fun b38 => (if b38 = true then some (.inr (.inl (1,s30.2.1,s30.2.2))) else ((recall_linkOf p0 ((rdL p0.fC s30.2.2).fID)).bind fun y41 => (if decide (y41 < s30.2.2) = true then some (.inr (.inl (6,s30.2.1,s30.2.2))) else some (.inl (s30.1,min (w64 (s30.2.1 * (((rdL p0.fC s30.2.2).fO.length : Nat) : Int))) 4097,w64 (s30.2.2 + 1))))))))) else some (.inr (.inr (s30.1,s30.2.1,s30.2.2))))
def recall_Check (p0:TL) : Option Int :=
 (if ((decide (60 < (p0.fNo.length:Int))) || (decide (80 < (p0.fC.length:Int)))) = true then some 2 else ((loopO (recall_Check_l1 p0) (0,0)).bind fun u6 => match u6 with | (.inl u27) => some u27.1 | (.inr u28) => ((loopO (recall_Check_l2 p0) (u28.1,1,0)).bind fun u31 => match u31 with | (.inl u47) => some u47.1 | (.inr u48) => (if decide (4096 < u48.2.1) = true then some 2 else some 0))))
def cmp_isNaN_int (p0:Int) : Option Bool :=
 some (p0 != p0)
def cmp_Less_int (p0:Int) (p1:Int) : Option Bool :=
 ((cmp_isNaN_int p0).bind fun y1 => ((if y1 = true then ((cmp_isNaN_int p1).bind fun y7 => some ((!y7))) else (some (false))).bind fun b4 => some (b4 || (decide (p0 < p1)))))
def slices_insertionSortOrdered_int_l2 (p0:(List Int)) (p1:Int) (s8:(Int × (List Int))) : Option ((Int × (List Int)) ⊕ (Int × (List Int))) :=
 ((if decide (p1 < s8.1) = true then (guardO ((0:Int) ≤ s8.1 ∧ s8.1 < (p0.length:Int)) (guardO ((0:Int) ≤ w64 (s8.1 - 1) ∧ w64 (s8.1 - 1) < (p0.length:Int)) (((cmp_Less_int (rdL s8.2 s8.1) (rdL s8.2 (w64 (s8.1 - 1)))).bind fun y21 => some (y21))))) else (some (false))).bind fun b11 => (if b11 = true then guardO ((0:Int) ≤ w64 (s8.1 - 1) ∧ w64 (s8.1 - 1) < (p0.length:Int)) (guardO ((0:Int) ≤ s8.1 ∧ s8.1 < (p0.length:Int)) (guardO ((0:Int) ≤ s8.1 ∧ s8.1 < (p0.length:Int)) (guardO ((0:Int) ≤ w64 (s8.1 - 1) ∧ w64 (s8.1 - 1) < (p0.length:Int)) (some (.inl (w64 (s8.1 - 1),((s8.2.set (Int.toNat s8.1) (rdL s8.2 (w64 (s8.1 - 1)))).set (Int.toNat (w64 (s8.1 - 1))) (rdL s8.2 s8.1)))))))) else some (.inr (s8.1,s8.2))))
def slices_insertionSortOrdered_int_l1 (p0:(List Int)) (p1:Int) (p2:Int) (s3:(Int × (List Int))) : Option ((Int × (List Int)) ⊕ (Int × (List Int))) :=
 (if decide (s3.1 < p2) = true then ((loopO (slices_insertionSortOrdered_int_l2 p0 p1) (s3.1,s3.2)).bind fun u9 => some (.inl (w64 (s3.1 + 1),u9.2))) else some (.inr (s3.1,s3.2)))
def slices_insertionSortOrdered_int (p0:(List Int)) (p1:Int) (p2:Int) : Option (List Int) :=
 ((loopO (slices_insertionSortOrdered_int_l1 p0 p1 p2) (w64 (p1 + 1),p0)).bind fun u4 => some u4.2)
def lenv (x:Int) : Int:=if x < 1 then 0 else if x < 2 then 1 else if x < 4 then 2 else if x < 8 then 3 else 4
def math_bits_Len64 (p0:Int) : Option Int:=guardO (0 ≤ p0 ∧ p0 < 16) (some (w64 (0 + lenv p0)))
def math_bits_Len (p0:Int) : Option Int :=
 ((math_bits_Len64 p0).bind fun y1 => some y1)
def slices_pdqsortOrdered_int_l1 (s3:(Int × Int × Int × Bool × Bool × (List Int))) : Option ((Int × Int × Int × Bool × Bool × (List Int)) ⊕ (Int × Int × Int × Bool × Bool × (List Int))) :=
 guardO (decide (w64 (s3.2.1 - s3.1) ≤ 12) = true) (((slices_insertionSortOrdered_int s3.2.2.2.2.2 s3.1 s3.2.1).bind fun y6 => some (.inr (s3.1,s3.2.1,s3.2.2.1,s3.2.2.2.1,s3.2.2.2.2.1,y6))))
def slices_pdqsortOrdered_int (p0:(List Int)) (p1:Int) (p2:Int) (p3:Int) : Option (List Int) :=
 ((loopO (slices_pdqsortOrdered_int_l1) (p1,p2,p3,true,true,p0)).bind fun u4 => some u4.2.2.2.2.2)
def slices_Sort_int_int (p0:(List Int)) : Option (List Int):=guardO (p0.length ≤ 12) (some (srtI p0))
def recall_listed (p0:(List (Int × Bool))) : Option (List Int):=guardO (p0.length ≤ 1000000 ∧ (listedV p0).length ≤ 12 ∧ p0.all (fun p => rngB p.1) = true) (some (listedV p0))
def recall_level_l1 (p0:TL) (p1:Int) (s5:(Int × (List (Int × Bool)))) : Option ((Int × (List (Int × Bool))) ⊕ (Int × (List (Int × Bool)))) :=
 (if decide (s5.1 < (p0.fNo.length:Int)) = true then guardO ((0:Int) ≤ s5.1 ∧ s5.1 < (p0.fNo.length:Int)) ((if (((rdL p0.fNo s5.1).fLevel) == p1) = true then guardO (rngB ((rdL p0.fNo s5.1).fID) = true ∧ List.length s5.2 < 1000000) (some (.inl (w64 (s5.1 + 1),(((rdL p0.fNo s5.1).fID,true) :: s5.2)))) else some (.inl (w64 (s5.1 + 1),s5.2)))) else some (.inr (s5.1,s5.2)))
def recall_level (p0:TL) (p1:Int) : Option (List (Int × Bool)) :=
 ((loopO (recall_level_l1 p0 p1) (0,[])).bind fun u6 => some u6.2)
def recall_charges (p0:TL) : Option (List Int) :=
 ((recall_level p0 0).bind fun y2 => ((recall_listed y2).bind fun y5 => some y5))
def seqCases_ok (l:TL) : Prop:=l.fC.length ≤ 1000 ∧ ∀ x ∈ l.fC,0 < x.fO.length ∧ x.fO.length ≤ 1000
instance (l:TL) : Decidable (seqCases_ok l):=by unfold seqCases_ok; infer_instance
def sKs (l:TL) : List Nat:=l.fC.map fun x => x.fO.length
def sCs (l:TL) : List (List Int):=allC (sKs l)
def recall_cases_1_l2 (cap0:TL) (s10:(Int × (List Int))) : Option ((Int × (List Int)) ⊕ (Int × (List Int))) :=
 ((if decide (0 ≤ s10.1) = true then (guardO ((0:Int) ≤ s10.1 ∧ s10.1 < (cap0.fC.length:Int)) (guardO ((0:Int) ≤ s10.1 ∧ s10.1 < (cap0.fC.length:Int)) (some (((w64 ((rdL s10.2 s10.1) + 1)) == (((rdL cap0.fC s10.1).fO.length : Nat) : Int)))))) else (some (false))).bind fun b13 => (if b13 = true then guardO ((0:Int) ≤ s10.1 ∧ s10.1 < (cap0.fC.length:Int)) (some (.inl (w64 (s10.1 - 1),(s10.2.set (Int.toNat s10.1) 0)))) else some (.inr (s10.1,s10.2))))
def recall_cases (p0:TL) : Option Unit :=
 some ()
def slices_insertionSortCmpFunc_int_l2 (p0:(List Int)) (p1:Int) (p3:Int → Int → Option Int) (s8:(Int × (List Int))) : Option ((Int × (List Int)) ⊕ (Int × (List Int))) :=
 ((if decide (p1 < s8.1) = true then (guardO ((0:Int) ≤ s8.1 ∧ s8.1 < (p0.length:Int)) (guardO ((0:Int) ≤ w64 (s8.1 - 1) ∧ w64 (s8.1 - 1) < (p0.length:Int)) (((p3 (rdL s8.2 s8.1) (rdL s8.2 (w64 (s8.1 - 1)))).bind fun y21 => some (decide (y21 < 0)))))) else (some (false))).bind fun b11 => (if b11 = true then guardO ((0:Int) ≤ w64 (s8.1 - 1) ∧ w64 (s8.1 - 1) < (p0.length:Int)) (guardO ((0:Int) ≤ s8.1 ∧ s8.1 < (p0.length:Int)) (guardO ((0:Int) ≤ s8.1 ∧ s8.1 < (p0.length:Int)) (guardO ((0:Int) ≤ w64 (s8.1 - 1) ∧ w64 (s8.1 - 1) < (p0.length:Int)) (some (.inl (w64 (s8.1 - 1),((s8.2.set (Int.toNat s8.1) (rdL s8.2 (w64 (s8.1 - 1)))).set (Int.toNat (w64 (s8.1 - 1))) (rdL s8.2 s8.1)))))))) else some (.inr (s8.1,s8.2))))
def slices_insertionSortCmpFunc_int_l1 (p0:(List Int)) (p1:Int) (p2:Int) (p3:Int → Int → Option Int) (s3:(Int × (List Int))) : Option ((Int × (List Int)) ⊕ (Int × (List Int))) :=
 (if decide (s3.1 < p2) = true then ((loopO (slices_insertionSortCmpFunc_int_l2 p0 p1 p3) (s3.1,s3.2)).bind fun u9 => some (.inl (w64 (s3.1 + 1),u9.2))) else some (.inr (s3.1,s3.2)))
def slices_insertionSortCmpFunc_int (p0:(List Int)) (p1:Int) (p2:Int) (p3:Int → Int → Option Int) : Option (List Int) :=
 ((loopO (slices_insertionSortCmpFunc_int_l1 p0 p1 p2 p3) (w64 (p1 + 1),p0)).bind fun u4 => some u4.2)
def slices_stableCmpFunc_int_l1 (p1:Int) (s2:(Int × Int)) : Option ((Int × Int) ⊕ (Int × Int)) :=
 guardO (decide (s2.2 ≤ p1) = false) (some (.inr (s2.1,s2.2)))
def slices_stableCmpFunc_int_l2 (p1:Int) (s10:(Int × Int × Int)) : Option ((Int × Int × Int) ⊕ (Int × Int × Int)) :=
 guardO (decide (s10.1 < p1) = false) (some (.inr (s10.1,s10.2.1,s10.2.2)))
def slices_stableCmpFunc_int (p0:(List Int)) (p1:Int) (p2:Int → Int → Option Int) : Option (List Int) :=
 ((loopO (slices_stableCmpFunc_int_l1 p1) (0,20)).bind fun u3 => ((slices_insertionSortCmpFunc_int p0 u3.1 p1 p2).bind fun y6 => ((loopO (slices_stableCmpFunc_int_l2 p1) (20,u3.1,u3.2)).bind fun u11 => some y6)))
def slices_SortStableFunc_int_int (p0:(List Int)) (p1:Int → Int → Option Int) : Option (List Int) :=
 ((slices_stableCmpFunc_int p0 (p0.length:Int) p1).bind fun y1 => some y1)
def cmp_Compare_int (p0:Int) (p1:Int) : Option Int :=
 ((cmp_isNaN_int p0).bind fun y1 => ((cmp_isNaN_int p1).bind fun y3 => (if y1 = true then (if y3 = true then some 0 else some (-1)) else (if y3 = true then some 1 else (if decide (p0 < p1) = true then some (-1) else (if decide (p1 < p0) = true then some 1 else some 0))))))
def recall_levels_1 (p0:Int) (p1:Int) (cap0:TL) : Option Int :=
 guardO ((0:Int) ≤ p0 ∧ p0 < (cap0.fNo.length:Int)) (guardO ((0:Int) ≤ p1 ∧ p1 < (cap0.fNo.length:Int)) (((cmp_Compare_int ((rdL cap0.fNo p0).fLevel) ((rdL cap0.fNo p1).fLevel)).bind fun y3 => some y3)))
def recall_levels_l1 (p0:TL) (s6:(Int × (List Int))) : Option ((Int × (List Int)) ⊕ (Int × (List Int))) :=
 (if decide (s6.1 < ((Int.toNat (p0.fNo.length:Int) : Nat) : Int)) = true then guardO ((0:Int) ≤ s6.1 ∧ s6.1 < ((Int.toNat (p0.fNo.length:Int) : Nat) : Int)) (some (.inl (w64 (s6.1 + 1),(s6.2.set (Int.toNat s6.1) s6.1)))) else some (.inr (s6.1,s6.2)))
def recall_levels (p0:TL) : Option (List Int) :=
 guardO ((0:Int) ≤ (p0.fNo.length:Int) ∧ (p0.fNo.length:Int) * 8 ≤ 281474976710656) (((loopO (recall_levels_l1 p0) (0,(List.replicate (Int.toNat (p0.fNo.length:Int)) 0))).bind fun u7 => ((slices_SortStableFunc_int_int u7.2 (fun x11 x12 => recall_levels_1 x11 x12 p0)).bind fun y13 => some y13)))
def recall_reach_l2 (p0:TL) (p2:Int → Int → Option Bool) (s5:(Int × (List (Int × (List Int))))) (s12:(Int × (List (Int × (List Int))))) : Option ((Int × (List (Int × (List Int)))) ⊕ (Int × (List (Int × (List Int))))) :=
 (if decide (s12.1 < (((rdL p0.fC s5.1).fO.length : Nat) : Int)) = true then guardO ((0:Int) ≤ s12.1 ∧ s12.1 < (((rdL p0.fC s5.1).fO.length : Nat) : Int)) (((p2 s5.1 s12.1).bind fun y17 => (if y17 = true then guardO (rngB ((rdL ((rdL p0.fC s5.1).fO) s12.1).fFrom) = true) (guardO ((mgetV [] s12.2 ((rdL ((rdL p0.fC s5.1).fO) s12.1).fFrom)).length + 1 ≤ 1000000000) (guardO (rngB ((rdL ((rdL p0.fC s5.1).fO) s12.1).fFrom) = true ∧ List.length s12.2 < 1000000) (some (.inl (w64 (s12.1 + 1),(((rdL ((rdL p0.fC s5.1).fO) s12.1).fFrom,((mgetV [] s12.2 ((rdL ((rdL p0.fC s5.1).fO) s12.1).fFrom)) ++ [(rdL ((rdL p0.fC s5.1).fO) s12.1).fTo])) :: s12.2)))))) else some (.inl (w64 (s12.1 + 1),s12.2))))) else some (.inr (s12.1,s12.2)))
def recall_reach_l1 (p0:TL) (p2:Int → Int → Option Bool) (s5:(Int × (List (Int × (List Int))))) : Option ((Int × (List (Int × (List Int)))) ⊕ (Int × (List (Int × (List Int))))) :=
 (if decide (s5.1 < (p0.fC.length:Int)) = true then guardO ((0:Int) ≤ s5.1 ∧ s5.1 < (p0.fC.length:Int)) (((loopO (recall_reach_l2 p0 p2 s5) (0,s5.2)).bind fun u13 => some (.inl (w64 (s5.1 + 1),u13.2)))) else some (.inr (s5.1,s5.2)))
def recall_reach_l3 (p1:(List Int)) (s32:(Int × (List (Int × Bool)))) : Option ((Int × (List (Int × Bool))) ⊕ (Int × (List (Int × Bool)))) :=
 (if decide (s32.1 < (p1.length:Int)) = true then guardO ((0:Int) ≤ s32.1 ∧ s32.1 < (p1.length:Int)) (guardO (rngB (rdL p1 s32.1) = true ∧ List.length s32.2 < 1000000) (some (.inl (w64 (s32.1 + 1),(((rdL p1 s32.1),true) :: s32.2))))) else some (.inr (s32.1,s32.2)))
def recall_reach_l5 (p0:TL) (u6:(Int × (List (Int × (List Int))))) (y38:(List Int)) (s46:(Int × (List (Int × Bool)))) (s56:(Int × (List (Int × Bool)))) : Option ((Int × (List (Int × Bool))) ⊕ (Int × (List (Int × Bool)))) :=
 (if decide (s56.1 < (((mgetV [] u6.2 ((rdL p0.fNo (rdL y38 s46.1)).fID)).length : Nat) : Int)) = true then guardO ((0:Int) ≤ s56.1 ∧ s56.1 < (((mgetV [] u6.2 ((rdL p0.fNo (rdL y38 s46.1)).fID)).length : Nat) : Int)) (guardO (rngB (rdL (mgetV [] u6.2 ((rdL p0.fNo (rdL y38 s46.1)).fID)) s56.1) = true ∧ List.length s56.2 < 1000000) (some (.inl (w64 (s56.1 + 1),(((rdL (mgetV [] u6.2 ((rdL p0.fNo (rdL y38 s46.1)).fID)) s56.1),true) :: s56.2))))) else some (.inr (s56.1,s56.2)))
def recall_reach_l4 (p0:TL) (u6:(Int × (List (Int × (List Int))))) (y38:(List Int)) (s46:(Int × (List (Int × Bool)))) : Option ((Int × (List (Int × Bool))) ⊕ (Int × (List (Int × Bool)))) :=
 (if decide (s46.1 < (y38.length:Int)) = true then guardO ((0:Int) ≤ s46.1 ∧ s46.1 < (y38.length:Int)) (guardO ((0:Int) ≤ (rdL y38 s46.1) ∧ (rdL y38 s46.1) < (p0.fNo.length:Int)) (guardO (rngB ((rdL p0.fNo (rdL y38 s46.1)).fID) = true) ((if (!(mgetV false s46.2 ((rdL p0.fNo (rdL y38 s46.1)).fID))) = true then some (.inl (w64 (s46.1 + 1),s46.2)) else guardO (rngB ((rdL p0.fNo (rdL y38 s46.1)).fID) = true) (((loopO (recall_reach_l5 p0 u6 y38 s46) (0,s46.2)).bind fun u57 => some (.inl (w64 (s46.1 + 1),u57.2)))))))) else some (.inr (s46.1,s46.2)))
def rcR (p0:TL) (p1:(List Int)) (p2:Int → Int → Option Bool) : Option (List (Int × Bool)) :=
 ((loopO (recall_reach_l1 p0 p2) (0,([]:(List (Int × (List Int)))))).bind fun u6 => ((loopO (recall_reach_l3 p1) (0,[])).bind fun u33 => ((recall_levels p0).bind fun y38 => ((loopO (recall_reach_l4 p0 u6 y38) (0,u33.2)).bind fun u47 => some u47.2))))
def recall_fixed_has (p0:(List Int)) (p1:Int) (p2:Int) : Option Bool :=
 guardO ((0:Int) ≤ p1 ∧ p1 < (p0.length:Int)) (some ((rdL p0 p1) == p2))
def recall_inCase (p0:(List Int)) : Option Unit :=
 some ()
def recall_possible_r1 (p0:TL) (p1:(List Int)) (s18:(List (Int × Bool))) (x19:(List Int)) : Option ((List (Int × Bool)) ⊕ Unit) :=
 ((recall_inCase x19).bind fun y21 => ((rcR p0 p1 (fun x23 x24 => recall_fixed_has x19 x23 x24)).bind fun y25 => guardO (List.length s18 + List.length y25 ≤ 1000000) (some (.inl (unionV true y25 s18)))))
def recall_possible (p0:TL) (p1:(List Int)) : Option (List (Int × Bool)) :=
 ((recall_cases p0).bind fun y5 => (guardO (seqCases_ok p0) ((foldO (recall_possible_r1 p0 p1) (sCs p0) []).bind fun u20 => match u20 with | .inl u45 => some u45 | .inr _ => none)))
def recall_sure_r1 (p0:TL) (p1:(List Int)) (s20:(List (Int × Bool))) (x21:(List Int)) : Option ((List (Int × Bool)) ⊕ Unit) :=
 ((recall_inCase x21).bind fun y23 => ((rcR p0 p1 (fun x25 x26 => recall_fixed_has x21 x25 x26)).bind fun y27 => some (.inl (s20.filter (fun p => !(fun y33 => (!(mgetV false y27 y33))) p.1)))))
def recall_sure (p0:TL) (p1:(List Int)) : Option (List (Int × Bool)) :=
 ((recall_possible p0 p1).bind fun y3 => ((recall_cases p0).bind fun y7 => (guardO (seqCases_ok p0) ((foldO (recall_sure_r1 p0 p1) (sCs p0) y3).bind fun u22 => match u22 with | .inl u48 => some u48 | .inr _ => none))))
def recall_Origins_l1 (p0:TL) (p1:Int) (y8:(List Int)) (s16:(Int × (List Int) × (List Int))) : Option ((Int × (List Int) × (List Int)) ⊕ (Int × (List Int) × (List Int))) :=
 (if decide (s16.1 < (y8.length:Int)) = true then guardO ((0:Int) ≤ s16.1 ∧ s16.1 < (y8.length:Int)) (((recall_sure p0 [(rdL y8 s16.1)]).bind fun y21 => guardO (rngB p1 = true) ((if mgetV false y21 p1 = true then guardO (s16.2.1.length + 1 ≤ 1000000000) (((recall_possible p0 [(rdL y8 s16.1)]).bind fun y31 => guardO (rngB p1 = true) ((if mgetV false y31 p1 = true then guardO (s16.2.2.length + 1 ≤ 1000000000) (some (.inl (w64 (s16.1 + 1),(s16.2.1 ++ [(rdL y8 s16.1)]),(s16.2.2 ++ [(rdL y8 s16.1)])))) else some (.inl (w64 (s16.1 + 1),(s16.2.1 ++ [(rdL y8 s16.1)]),s16.2.2)))))) else ((recall_possible p0 [(rdL y8 s16.1)]).bind fun y41 => guardO (rngB p1 = true) ((if mgetV false y41 p1 = true then guardO (s16.2.2.length + 1 ≤ 1000000000) (some (.inl (w64 (s16.1 + 1),s16.2.1,(s16.2.2 ++ [(rdL y8 s16.1)])))) else some (.inl (w64 (s16.1 + 1),s16.2.1,s16.2.2))))))))) else some (.inr (s16.1,s16.2.1,s16.2.2)))
def recall_Origins (p0:TL) (p1:Int) : Option ((List Int) × (List Int) × Int) :=
 ((recall_Check p0).bind fun y2 => (if (y2 != 0) = true then some ([],[],y2) else ((recall_nodeOf p0 p1).bind fun y5 => (if decide (y5 < 0) = true then some ([],[],5) else ((recall_charges p0).bind fun y8 => ((loopO (recall_Origins_l1 p0 p1 y8) (0,([]:List Int),([]:List Int))).bind fun u17 => some (u17.2.1,u17.2.2,0)))))))
def recall_increasing_int_l1 (p0:(List Int)) (p1:Int → Option Int) (p2:Int → Option Bool) (s2:(Bool × Int)) : Option ((Bool × Int) ⊕ ((Bool × Int) ⊕ (Bool × Int))) :=
 (if decide (s2.2 < (p0.length:Int)) = true then guardO ((0:Int) ≤ s2.2 ∧ s2.2 < (p0.length:Int)) (((p1 (rdL p0 s2.2)).bind fun y6 => ((p2 y6).bind fun y8 => ((if (!y8) = true then (some (true)) else ((if decide (0 < s2.2) = true then ((p1 (rdL p0 s2.2)).bind fun y17 => guardO ((0:Int) ≤ w64 (s2.2 - 1) ∧ w64 (s2.2 - 1) < (p0.length:Int)) (((p1 (rdL p0 (w64 (s2.2 - 1)))).bind fun y20 => some (decide (y17 ≤ y20))))) else (some (false))).bind fun b15 => some (b15))).bind fun b11 => (if b11 = true then some (.inr (.inl (false,s2.2))) else some (.inl (s2.1,w64 (s2.2 + 1)))))))) else some (.inr (.inr (s2.1,s2.2))))
def recall_increasing_int (p0:(List Int)) (p1:Int → Option Int) (p2:Int → Option Bool) : Option Bool :=
 ((loopO (recall_increasing_int_l1 p0 p1 p2) (false,0)).bind fun u3 => match u3 with | (.inl u23) => some u23.1 | (.inr u24) => some true)
def recall_own (p0:Int) : Option Int :=
 some p0
def recall_isFrom_1 (p0:Int) (cap0:TL) : Option Bool :=
 ((recall_nodeOf cap0 p0).bind fun y1 => some (decide (0 ≤ y1)))
def recall_isFrom (p0:TL) (p1:(List Int)) : Option Bool :=
 ((if decide (0 < (p1.length:Int)) = true then ((recall_increasing_int p1 (fun x5 => recall_own x5) (fun x6 => recall_isFrom_1 x6 p0)).bind fun y7 => some (y7)) else (some (false))).bind fun b3 => some b3)
def recall_asked (p0:TL) (p1:(List Int)) : Option Int :=
 ((recall_Check p0).bind fun y2 => (if (y2 != 0) = true then some y2 else ((recall_isFrom p0 p1).bind fun y5 => (if (!y5) = true then some 1 else some 0))))
def recall_walls_l1 (p0:TL) (p1:(List (Int × Bool))) (s5:(Int × Int × (List (Int × Bool)))) : Option ((Int × Int × (List (Int × Bool))) ⊕ (Int × Int × (List (Int × Bool)))) :=
 (if decide (s5.2.1 < (p0.fNo.length:Int)) = true then guardO ((0:Int) ≤ s5.2.1 ∧ s5.2.1 < (p0.fNo.length:Int)) (((if (((rdL p0.fNo s5.2.1).fLevel) == 9) = true then (guardO (rngB ((rdL p0.fNo s5.2.1).fID) = true) (some (mgetV false p1 ((rdL p0.fNo s5.2.1).fID)))) else (some (false))).bind fun b11 => (if b11 = true then guardO (rngB ((rdL p0.fNo s5.2.1).fID) = true ∧ List.length s5.2.2 < 1000000) (some (.inl (w64 (s5.1 + ((rdL p0.fNo s5.2.1).fCost)),w64 (s5.2.1 + 1),(((rdL p0.fNo s5.2.1).fID,true) :: s5.2.2)))) else some (.inl (s5.1,w64 (s5.2.1 + 1),s5.2.2))))) else some (.inr (s5.1,s5.2.1,s5.2.2)))
def recall_walls (p0:TL) (p1:(List (Int × Bool))) : Option ((List Int) × Int) :=
 ((loopO (recall_walls_l1 p0 p1) (0,0,[])).bind fun u6 => ((recall_listed u6.2.2).bind fun y17 => some (y17,u6.1)))
def recall_Recall (p0:TL) (p1:(List Int)) (p2:Bool) : Option ((List Int) × Int × Int) :=
 ((recall_asked p0 p1).bind fun y2 => (if (y2 != 0) = true then some ([],0,y2) else ((recall_possible p0 p1).bind fun y5 => (if p2 = true then ((recall_sure p0 p1).bind fun y9 => ((recall_walls p0 y9).bind fun y12 => some (y12.1,y12.2,0))) else ((recall_walls p0 y5).bind fun y18 => some (y18.1,y18.2,0))))))
def ref09_SameInts_l1 (p0:(List Int)) (p1:(List Int)) (s3:(Bool × Int)) : Option ((Bool × Int) ⊕ ((Bool × Int) ⊕ (Bool × Int))) :=
 (if decide (s3.2 < (p0.length:Int)) = true then guardO ((0:Int) ≤ s3.2 ∧ s3.2 < (p0.length:Int)) (guardO ((0:Int) ≤ s3.2 ∧ s3.2 < (p1.length:Int)) ((if ((rdL p0 s3.2) != (rdL p1 s3.2)) = true then some (.inr (.inl (false,s3.2))) else some (.inl (s3.1,w64 (s3.2 + 1)))))) else some (.inr (.inr (s3.1,s3.2))))
def ref09_SameInts (p0:(List Int)) (p1:(List Int)) : Option Bool :=
 (if ((p0.length:Int) != (p1.length:Int)) = true then some false else ((loopO (ref09_SameInts_l1 p0 p1) (false,0)).bind fun u4 => match u4 with | (.inl u10) => some u10.1 | (.inr u11) => some true))
def recall_askedTo (p0:TL) (p1:(List Int)) (p2:Int) : Option Int :=
 ((recall_asked p0 p1).bind fun y2 => (if (y2 != 0) = true then some y2 else ((recall_nodeOf p0 p2).bind fun y5 => (if decide (y5 < 0) = true then some 5 else some 0))))
def recall_maybe_1 (p0:Int) (p1:Int) (cap0:(List Int)) (cap1:Int → Int → Option Bool) : Option Bool :=
 guardO ((0:Int) ≤ p0 ∧ p0 < (cap0.length:Int)) (((if ((rdL cap0 p0) == p1) = true then ((cap1 p0 p1).bind fun y5 => some (y5)) else (some (false))).bind fun b3 => some b3))
def recall_maybe_r1 (p0:TL) (p1:(List Int)) (p2:Int) (p3:Int → Int → Option Bool) (s24:Bool) (x25:(List Int)) : Option (Bool ⊕ Bool) :=
 ((rcR p0 p1 (fun x28 x29 => recall_maybe_1 x28 x29 x25 p3)).bind fun y30 => guardO (rngB p2 = true) ((if mgetV false y30 p2 = true then some (.inr true) else some (.inl s24))))
def recall_maybe (p0:TL) (p1:(List Int)) (p2:Int) (p3:Int → Int → Option Bool) : Option Bool :=
 ((rcR p0 p1 p3).bind fun y6 => guardO (rngB p2 = true) ((if (!(mgetV false y6 p2)) = true then some false else ((recall_cases p0).bind fun y11 => (guardO (seqCases_ok p0) ((foldO (recall_maybe_r1 p0 p1 p2 p3) (sCs p0) false).bind fun u26 => match u26 with | .inl u37 => some false | .inr u38 => some u38))))))
def recall_anyOption (p0:Int) (p1:Int) : Option Bool :=
 some true
def recall_Hangs_1 (p0:Int) (p1:Int) (cap0:Int) : Option Bool :=
 some (p0 != cap0)
def recall_Hangs_l1 (p0:TL) (p1:(List Int)) (p2:Int) (s12:(Int × (List Int))) : Option ((Int × (List Int)) ⊕ (Int × (List Int))) :=
 (if decide (s12.1 < (p0.fC.length:Int)) = true then guardO ((0:Int) ≤ s12.1 ∧ s12.1 < (p0.fC.length:Int)) (((recall_maybe p0 p1 p2 (fun x18 x19 => recall_Hangs_1 x18 x19 s12.1)).bind fun y20 => (if (!y20) = true then guardO (s12.2.length + 1 ≤ 1000000000) (some (.inl (w64 (s12.1 + 1),(s12.2 ++ [(rdL p0.fC s12.1).fID])))) else some (.inl (w64 (s12.1 + 1),s12.2))))) else some (.inr (s12.1,s12.2)))
def recall_Hangs (p0:TL) (p1:(List Int)) (p2:Int) : Option ((List Int) × Int) :=
 ((recall_askedTo p0 p1 p2).bind fun y2 => (if (y2 != 0) = true then some ([],y2) else ((recall_maybe p0 p1 p2 (fun x5 x6 => recall_anyOption x5 x6)).bind fun y7 => (if (!y7) = true then some ([],5) else ((loopO (recall_Hangs_l1 p0 p1 p2) (0,([]:List Int))).bind fun u13 => ((slices_Sort_int_int u13.2).bind fun y28 => some (y28,0)))))))
def slices_Index_int_int_l1 (p0:(List Int)) (p1:Int) (s2:(Int × Int)) : Option ((Int × Int) ⊕ ((Int × Int) ⊕ (Int × Int))) :=
 (if decide (s2.2 < (p0.length:Int)) = true then guardO ((0:Int) ≤ s2.2 ∧ s2.2 < (p0.length:Int)) ((if (p1 == (rdL p0 s2.2)) = true then some (.inr (.inl (s2.2,s2.2))) else some (.inl (s2.1,w64 (s2.2 + 1))))) else some (.inr (.inr (s2.1,s2.2))))
def slices_Index_int_int (p0:(List Int)) (p1:Int) : Option Int :=
 ((loopO (slices_Index_int_int_l1 p0 p1) (0,0)).bind fun u3 => match u3 with | (.inl u8) => some u8.1 | (.inr u9) => some (-1))
def slices_Contains_int_int (p0:(List Int)) (p1:Int) : Option Bool :=
 ((slices_Index_int_int p0 p1).bind fun y1 => some (decide (0 ≤ y1)))
def recall_Gates_1 (p0:Int) (p1:Int) (cap0:TL) (cap1:TN) : Option Bool :=
 guardO ((0:Int) ≤ p0 ∧ p0 < (cap0.fC.length:Int)) (guardO ((0:Int) ≤ p1 ∧ p1 < (((rdL cap0.fC p0).fO.length : Nat) : Int)) (some (((rdL ((rdL cap0.fC p0).fO) p1).fTo) != cap1.fID)))
def recall_Gates_l1 (p0:TL) (p1:(List Int)) (p2:Int) (s12:(Int × (List Int))) : Option ((Int × (List Int)) ⊕ (Int × (List Int))) :=
 (if decide (s12.1 < (p0.fNo.length:Int)) = true then guardO ((0:Int) ≤ s12.1 ∧ s12.1 < (p0.fNo.length:Int)) (((if (((rdL p0.fNo s12.1).fID) == p2) = true then (some (true)) else ((slices_Contains_int_int p1 ((rdL p0.fNo s12.1).fID)).bind fun y30 => some (y30))).bind fun b18 => (if b18 = true then some (.inl (w64 (s12.1 + 1),s12.2)) else ((recall_maybe p0 p1 p2 (fun x21 x22 => recall_Gates_1 x21 x22 p0 (TN.mk ((rdL p0.fNo s12.1).fID) ((rdL p0.fNo s12.1).fLevel) ((rdL p0.fNo s12.1).fCost)))).bind fun y23 => (if (!y23) = true then guardO (s12.2.length + 1 ≤ 1000000000) (some (.inl (w64 (s12.1 + 1),(s12.2 ++ [(rdL p0.fNo s12.1).fID])))) else some (.inl (w64 (s12.1 + 1),s12.2))))))) else some (.inr (s12.1,s12.2)))
def recall_Gates (p0:TL) (p1:(List Int)) (p2:Int) : Option ((List Int) × Int) :=
 ((recall_askedTo p0 p1 p2).bind fun y2 => (if (y2 != 0) = true then some ([],y2) else ((recall_maybe p0 p1 p2 (fun x5 x6 => recall_anyOption x5 x6)).bind fun y7 => (if (!y7) = true then some ([],5) else ((loopO (recall_Gates_l1 p0 p1 p2) (0,([]:List Int))).bind fun u13 => ((slices_Sort_int_int u13.2).bind fun y33 => some (y33,0)))))))
def recall_Share_r1 (p0:TL) (p1:(List Int)) (p2:Int) (s23:(Int × Int)) (x24:(List Int)) : Option ((Int × Int) ⊕ Unit) :=
 ((recall_inCase x24).bind fun y27 => ((rcR p0 p1 (fun x29 x30 => recall_fixed_has x24 x29 x30)).bind fun y31 => guardO (rngB p2 = true) ((if mgetV false y31 p2 = true then some (.inl (w64 (s23.1 + 1),w64 (s23.2 + 1))) else some (.inl (s23.1,w64 (s23.2 + 1)))))))
def recall_Share_l2 (s40:(Int × Int)) : Option ((Int × Int) ⊕ (Int × Int)) :=
 (if decide (0 < s40.2) = true then guardO (s40.2 ≠ 0) (some (.inl (s40.2,Int.tmod s40.1 s40.2))) else some (.inr (s40.1,s40.2)))
def recall_Share (p0:TL) (p1:(List Int)) (p2:Int) : Option (TRatio × Int) :=
 ((recall_askedTo p0 p1 p2).bind fun y5 => (if (y5 != 0) = true then some ((TRatio.mk 0 0),y5) else ((recall_cases p0).bind fun y10 => (guardO (seqCases_ok p0) ((foldO (recall_Share_r1 p0 p1 p2) (sCs p0) (0,0)).bind fun u25 => match u25 with | .inl u38 => ((loopO (recall_Share_l2) (u38.1,u38.2)).bind fun u41 => guardO (u41.1 ≠ 0) (guardO (u41.1 ≠ 0) (some ((TRatio.mk (w64 (Int.tdiv u38.1 u41.1)) (w64 (Int.tdiv u38.2 u41.1))),0)))) | .inr _ => none)))))
def recall_doubt (p0:TL) (p1:(List Int)) : Option Int :=
 ((recall_possible p0 p1).bind fun y2 => ((recall_sure p0 p1).bind fun y5 => ((recall_walls p0 (diffV y5 y2)).bind fun y23 => some y23.2)))
def slices_Clone_Hop_Hop (p0:(List TH)) : Option (List TH) :=
 guardO (0 + p0.length ≤ 1000000000) (some (([]:List TH) ++ p0))
def slices_Clone_Node_Node (p0:(List TN)) : Option (List TN) :=
 guardO (0 + p0.length ≤ 1000000000) (some (([]:List TN) ++ p0))
def slices_Clone_Claim_Claim (p0:(List TC)) : Option (List TC) :=
 guardO (0 + p0.length ≤ 1000000000) (some (([]:List TC) ++ p0))
def recall_copied_l1 (y10:(List TC)) (s22:(Int × (List TC))) : Option ((Int × (List TC)) ⊕ (Int × (List TC))) :=
 (if decide (s22.1 < (y10.length:Int)) = true then guardO ((0:Int) ≤ s22.1 ∧ s22.1 < (y10.length:Int)) (((slices_Clone_Hop_Hop ((rdL s22.2 s22.1).fO)).bind fun y26 => guardO ((0:Int) ≤ s22.1 ∧ s22.1 < (y10.length:Int)) (some (.inl (w64 (s22.1 + 1),(s22.2.set (Int.toNat s22.1) (TC.mk ((rdL s22.2 s22.1).fID) y26))))))) else some (.inr (s22.1,s22.2)))
def recall_copied (p0:TL) : Option TL :=
 ((slices_Clone_Node_Node p0.fNo).bind fun y4 => ((slices_Clone_Claim_Claim p0.fC).bind fun y10 => ((loopO (recall_copied_l1 y10) (0,y10)).bind fun u23 => some (TL.mk y4 u23.2))))
def recall_told (p0:TL) (p1:Int) (p2:(List TH)) : Option TL :=
 ((recall_copied p0).bind fun y3 => ((slices_Clone_Hop_Hop p2).bind fun y22 => guardO ((0:Int) ≤ p1 ∧ p1 < (y3.fC.length:Int)) (some (TL.mk y3.fNo (y3.fC.set (Int.toNat p1) (TC.mk ((rdL y3.fC p1).fID) y22))))))
def recall_least_calx_recall_asking_l1 (p0:(List Tasking)) (p1:Tasking → Tasking → Option Bool) (s5:(Int × Int × Int)) : Option ((Int × Int × Int) ⊕ (Int × Int × Int)) :=
 (if decide (s5.1 < (p0.length:Int)) = true then guardO ((0:Int) ≤ s5.1 ∧ s5.1 < (p0.length:Int)) (((if (s5.1 == 0) = true then (some (true)) else ((p1 (Tasking.mk ((rdL p0 s5.1).f_id) ((rdL p0 s5.1).f_left)) (Tasking.mk s5.2.1 s5.2.2)).bind fun y14 => some (y14))).bind fun b11 => (if b11 = true then some (.inl (w64 (s5.1 + 1),(rdL p0 s5.1).f_id,(rdL p0 s5.1).f_left)) else some (.inl (w64 (s5.1 + 1),s5.2.1,s5.2.2))))) else some (.inr (s5.1,s5.2.1,s5.2.2)))
def recall_least_calx_recall_asking (p0:(List Tasking)) (p1:Tasking → Tasking → Option Bool) : Option (Tasking × Bool) :=
 ((loopO (recall_least_calx_recall_asking_l1 p0 p1) (0,0,0)).bind fun u6 => some ((Tasking.mk u6.2.1 u6.2.2),decide (0 < (p0.length:Int))))
def recall_Ask_1 (p0:Tasking) (p1:Tasking) : Option Bool :=
 some ((decide (p0.f_left < p1.f_left)) || ((p0.f_left == p1.f_left) && (decide (p0.f_id < p1.f_id))))
def recall_Ask_l2 (p0:TL) (p1:(List Int)) (s7:(Int × (List Tasking))) (s16:(Int × Int)) : Option ((Int × Int) ⊕ (Int × Int)) :=
 (if decide (s16.1 < (((rdL p0.fC s7.1).fO.length : Nat) : Int)) = true then guardO ((0:Int) ≤ s16.1 ∧ s16.1 ≤ w64 (s16.1 + 1) ∧ w64 (s16.1 + 1) ≤ w64 (s16.1 + 1) ∧ w64 (s16.1 + 1) ≤ (((rdL p0.fC s7.1).fO.length : Nat) : Int)) (((recall_told p0 s7.1 ((((rdL p0.fC s7.1).fO).drop (Int.toNat s16.1)).take (Int.toNat (w64 (s16.1 + 1)) - Int.toNat s16.1))).bind fun y20 => ((recall_doubt y20 p1).bind fun y34 => some (.inl (w64 (s16.1 + 1),max s16.2 y34))))) else some (.inr (s16.1,s16.2)))
def recall_Ask_l1 (p0:TL) (p1:(List Int)) (s7:(Int × (List Tasking))) : Option ((Int × (List Tasking)) ⊕ (Int × (List Tasking))) :=
 (if decide (s7.1 < (p0.fC.length:Int)) = true then guardO ((0:Int) ≤ s7.1 ∧ s7.1 < (p0.fC.length:Int)) ((if decide ((((rdL p0.fC s7.1).fO.length : Nat) : Int) < 2) = true then some (.inl (w64 (s7.1 + 1),s7.2)) else ((loopO (recall_Ask_l2 p0 p1 s7) (0,0)).bind fun u17 => guardO (s7.2.length + 1 ≤ 1000000000) (some (.inl (w64 (s7.1 + 1),(s7.2 ++ [(Tasking.mk ((rdL p0.fC s7.1).fID) u17.2)]))))))) else some (.inr (s7.1,s7.2)))
def recall_Ask (p0:TL) (p1:(List Int)) : Option (Int × Int × Int) :=
 ((recall_asked p0 p1).bind fun y2 => (if (y2 != 0) = true then some (0,0,y2) else ((loopO (recall_Ask_l1 p0 p1) (0,([]:List Tasking))).bind fun u8 => ((recall_least_calx_recall_asking u8.2 (fun x54 x55 => recall_Ask_1 x54 x55)).bind fun y56 => (if (!y56.2) = true then some (0,0,5) else some (y56.1.f_id,y56.1.f_left,0))))))
def recall_isCut_1 (p0:Int) (p1:Int) (cap0:(List (Int × Bool))) (cap1:TL) : Option Bool :=
 guardO ((0:Int) ≤ p0 ∧ p0 < (cap1.fC.length:Int)) (guardO (rngB ((rdL cap1.fC p0).fID) = true) (some (!(mgetV false cap0 ((rdL cap1.fC p0).fID)))))
def recall_isCut (p0:TL) (p1:(List Int)) (p2:Int) (p3:(List (Int × Bool))) : Option Bool :=
 ((recall_maybe p0 p1 p2 (fun x3 x4 => recall_isCut_1 x3 x4 p3 p0)).bind fun y5 => some (!y5))
def recall_Cut_l1 (p0:TL) (s11:(Int × (List (Int × Bool)))) : Option ((Int × (List (Int × Bool))) ⊕ (Int × (List (Int × Bool)))) :=
 (if decide (s11.1 < (p0.fC.length:Int)) = true then guardO ((0:Int) ≤ s11.1 ∧ s11.1 < (p0.fC.length:Int)) (guardO (rngB ((rdL p0.fC s11.1).fID) = true ∧ List.length s11.2 < 1000000) (some (.inl (w64 (s11.1 + 1),(((rdL p0.fC s11.1).fID,true) :: s11.2))))) else some (.inr (s11.1,s11.2)))
def recall_Cut_l2 (p0:TL) (p1:(List Int)) (p2:Int) (y18:(List Int)) (s26:(Int × (List (Int × Bool)))) : Option ((Int × (List (Int × Bool))) ⊕ (Int × (List (Int × Bool)))) :=
 (if decide (s26.1 < (y18.length:Int)) = true then guardO ((0:Int) ≤ s26.1 ∧ s26.1 < (y18.length:Int)) (guardO (rngB (rdL y18 s26.1) = true ∧ List.length s26.2 < 1000000) (((recall_isCut p0 p1 p2 (((rdL y18 s26.1),false) :: s26.2)).bind fun y31 => (if (!y31) = true then guardO (rngB (rdL y18 s26.1) = true ∧ List.length (((rdL y18 s26.1),false) :: s26.2) < 1000000) (some (.inl (w64 (s26.1 + 1),(((rdL y18 s26.1),true) :: (((rdL y18 s26.1),false) :: s26.2))))) else some (.inl (w64 (s26.1 + 1),(((rdL y18 s26.1),false) :: s26.2))))))) else some (.inr (s26.1,s26.2)))
def recall_Cut (p0:TL) (p1:(List Int)) (p2:Int) : Option ((List Int) × Int) :=
 ((recall_askedTo p0 p1 p2).bind fun y2 => (if (y2 != 0) = true then some ([],y2) else ((slices_Contains_int_int p1 p2).bind fun y5 => (if y5 = true then some ([],5) else ((loopO (recall_Cut_l1 p0) (0,[])).bind fun u12 => ((recall_listed u12.2).bind fun y18 => ((loopO (recall_Cut_l2 p0 p1 p2 y18) (0,u12.2)).bind fun u27 => ((recall_listed u27.2).bind fun y36 => some (y36,0)))))))))
def recall_Surely (p0:TL) (p1:(List Int)) : Option ((List Int) × Int) :=
 ((recall_asked p0 p1).bind fun y2 => (if (y2 != 0) = true then some ([],y2) else ((recall_sure p0 p1).bind fun y5 => ((recall_listed y5).bind fun y8 => some (y8,0)))))
def recall_Possibly (p0:TL) (p1:(List Int)) : Option ((List Int) × Int) :=
 ((recall_asked p0 p1).bind fun y2 => (if (y2 != 0) = true then some ([],y2) else ((recall_possible p0 p1).bind fun y5 => ((recall_listed y5).bind fun y8 => some (y8,0)))))
def calxlaw09_Example  : Option TL :=
 some (TL.mk [(TN.mk 1 0 0),(TN.mk 2 0 0),(TN.mk 3 3 0),(TN.mk 4 3 0),(TN.mk 5 9 10),(TN.mk 6 9 7)] [(TC.mk 11 [(TH.mk 1 3)]),(TC.mk 12 [(TH.mk 1 4),(TH.mk 2 4)]),(TC.mk 13 [(TH.mk 3 5)]),(TC.mk 14 [(TH.mk 4 5),(TH.mk 4 6)])])
def recall_Cases_r1 (s19:Int) (x20:(List Int)) : Option (Int ⊕ Unit) :=
 some (.inl (w64 (s19 + 1)))
def recall_Cases (p0:TL) : Option (Int × Int) :=
 ((recall_Check p0).bind fun y2 => (if (y2 != 0) = true then some (0,y2) else ((recall_cases p0).bind fun y6 => (guardO (seqCases_ok p0) ((foldO (recall_Cases_r1) (sCs p0) 0).bind fun u21 => match u21 with | .inl u24 => some (u24,0) | .inr _ => none)))))
def calxlaw09_head  : Option Bool :=
 ((calxlaw09_Example).bind fun y1 => ((recall_Cases y1).bind fun y20 => ((recall_Surely y1 [1]).bind fun y23 => ((recall_Possibly y1 [2]).bind fun y30 => ((recall_Hangs y1 [1] 6).bind fun y37 => ((recall_Gates y1 [1] 6).bind fun y44 => ((recall_Cut y1 [1] 5).bind fun y51 => ((recall_Share y1 [2] 5).bind fun y58 => ((recall_Recall y1 [1] false).bind fun y62 => ((recall_Ask y1 [1]).bind fun y69 => ((recall_Origins y1 5).bind fun y71 => (if ((((((((((y20.2 != 0) || (y23.2 != 0)) || (y30.2 != 0)) || (y37.2 != 0)) || (y44.2 != 0)) || (y51.2 != 0)) || (y58.2 != 0)) || (y62.2.2 != 0)) || (y69.2.2 != 0)) || (y71.2.2 != 0)) = true then some false else ((ref09_SameInts y23.1 [1,3,5]).bind fun y92 => ((if y92 = true then ((ref09_SameInts y30.1 [2,4,5,6]).bind fun y137 => some (y137)) else (some (false))).bind fun b95 => ((if b95 = true then ((ref09_SameInts y37.1 [12,14]).bind fun y134 => some (y134)) else (some (false))).bind fun b98 => ((if b98 = true then ((ref09_SameInts y44.1 [4]).bind fun y131 => some (y131)) else (some (false))).bind fun b101 => ((ref09_SameInts y51.1 [13,14]).bind fun y104 => ((if y104 = true then ((ref09_SameInts y62.1 [5,6]).bind fun y128 => some (y128)) else (some (false))).bind fun b107 => ((if b107 = true then ((ref09_SameInts y71.1 [1]).bind fun y125 => some (y125)) else (some (false))).bind fun b110 => ((if b110 = true then ((ref09_SameInts y71.2.1 [1,2]).bind fun y122 => some (y122)) else (some (false))).bind fun b113 => some ((((((b101 && b113) && (y20.1 == 4)) && ((y58.1.fNum == 1) && (y58.1.fDen == 4))) && (y62.2.1 == 17)) && (y69.1 == 12)) && (y69.2.1 == 7))))))))))))))))))))))
def calxlaw09_few_l1 (p0:TL) (s3:(Bool × Int × Int)) : Option ((Bool × Int × Int) ⊕ ((Bool × Int × Int) ⊕ (Bool × Int × Int))) :=
 (if decide (s3.2.2 < (p0.fC.length:Int)) = true then guardO ((0:Int) ≤ s3.2.2 ∧ s3.2.2 < (p0.fC.length:Int)) ((if decide (6 < (((rdL p0.fC s3.2.2).fO.length : Nat) : Int)) = true then some (.inr (.inl (false,s3.2.1,s3.2.2))) else some (.inl (s3.1,min (w64 (s3.2.1 * (max 1 (((rdL p0.fC s3.2.2).fO.length : Nat) : Int)))) 10000,w64 (s3.2.2 + 1))))) else some (.inr (.inr (s3.1,s3.2.1,s3.2.2))))
def calxlaw09_few (p0:TL) : Option Bool :=
 ((loopO (calxlaw09_few_l1 p0) (false,1,0)).bind fun u4 => match u4 with | (.inl u9) => some u9.1 | (.inr u10) => some ((((decide ((p0.fNo.length:Int) ≤ 12)) || ((decide (60 < (p0.fNo.length:Int))) && (decide ((p0.fNo.length:Int) ≤ 80)))) && ((decide ((p0.fC.length:Int) ≤ 12)) || ((decide (80 < (p0.fC.length:Int))) && (decide ((p0.fC.length:Int) ≤ 100))))) && ((decide (u10.2.1 ≤ 64)) || (decide (4096 < u10.2.1)))))
def ref09_has_l1 (p0:(List Int)) (p1:Int) (s2:(Bool × Int)) : Option ((Bool × Int) ⊕ ((Bool × Int) ⊕ (Bool × Int))) :=
 (if decide (s2.2 < (p0.length:Int)) = true then guardO ((0:Int) ≤ s2.2 ∧ s2.2 < (p0.length:Int)) ((if ((rdL p0 s2.2) == p1) = true then some (.inr (.inl (true,s2.2))) else some (.inl (s2.1,w64 (s2.2 + 1))))) else some (.inr (.inr (s2.1,s2.2))))
def ref09_has (p0:(List Int)) (p1:Int) : Option Bool :=
 ((loopO (ref09_has_l1 p0 p1) (false,0)).bind fun u3 => match u3 with | (.inl u8) => some u8.1 | (.inr u9) => some false)
def ref09_put_l1 (p0:(List Int)) (p1:Int) (s2:Int) : Option (Int ⊕ Int) :=
 ((if decide (0 < s2) = true then (guardO ((0:Int) ≤ w64 (s2 - 1) ∧ w64 (s2 - 1) < (p0.length:Int)) (some (decide (p1 < (rdL p0 (w64 (s2 - 1))))))) else (some (false))).bind fun b5 => (if b5 = true then some (.inl (w64 (s2 - 1))) else some (.inr s2)))
def ref09_put (p0:(List Int)) (p1:Int) : Option (List Int) :=
 ((loopO (ref09_put_l1 p0 p1) (p0.length:Int)).bind fun u3 => guardO ((0:Int) ≤ u3 ∧ u3 ≤ (p0.length:Int)) (guardO (0 + (Int.toNat u3) ≤ 1000000000) (guardO ((0 + (Int.toNat u3)) + 1 ≤ 1000000000) (guardO ((0:Int) ≤ u3 ∧ u3 ≤ (p0.length:Int)) (guardO (((0 + (Int.toNat u3)) + 1) + (p0.length - Int.toNat u3) ≤ 1000000000) (some (((([]:List Int) ++ (p0.take (Int.toNat u3))) ++ [p1]) ++ (p0.drop (Int.toNat u3)))))))))
def recall_isLinks_1 (p0:Int) (cap0:TL) : Option Bool :=
 ((recall_linkOf cap0 p0).bind fun y1 => some (decide (0 ≤ y1)))
def recall_isLinks (p0:TL) (p1:(List Int)) : Option Bool :=
 ((recall_increasing_int p1 (fun x2 => recall_own x2) (fun x3 => recall_isLinks_1 x3 p0)).bind fun y4 => some y4)
def recall_CheckCut_l1 (p3:(List Int)) (s11:(Int × (List (Int × Bool)))) : Option ((Int × (List (Int × Bool))) ⊕ (Int × (List (Int × Bool)))) :=
 (if decide (s11.1 < (p3.length:Int)) = true then guardO ((0:Int) ≤ s11.1 ∧ s11.1 < (p3.length:Int)) (guardO (rngB (rdL p3 s11.1) = true ∧ List.length s11.2 < 1000000) (some (.inl (w64 (s11.1 + 1),(((rdL p3 s11.1),true) :: s11.2))))) else some (.inr (s11.1,s11.2)))
def recall_CheckCut (p0:TL) (p1:(List Int)) (p2:Int) (p3:(List Int)) : Option Int :=
 ((recall_askedTo p0 p1 p2).bind fun y2 => (if (y2 != 0) = true then some y2 else ((recall_isLinks p0 p3).bind fun y5 => (if (!y5) = true then some 1 else ((loopO (recall_CheckCut_l1 p3) (0,[])).bind fun u12 => ((recall_isCut p0 p1 p2 u12.2).bind fun y17 => (if (!y17) = true then some 8 else some 0)))))))
def recall_isCase_l1 (p0:TL) (p1:(List Int)) (s4:(Bool × Int)) : Option ((Bool × Int) ⊕ ((Bool × Int) ⊕ (Bool × Int))) :=
 (if decide (s4.2 < (p1.length:Int)) = true then guardO ((0:Int) ≤ s4.2 ∧ s4.2 < (p1.length:Int)) (guardO ((0:Int) ≤ s4.2 ∧ s4.2 < (p0.fC.length:Int)) (((recall_within (rdL p1 s4.2) 0 (w64 ((((rdL p0.fC s4.2).fO.length : Nat) : Int) - 1))).bind fun y9 => (if (!y9) = true then some (.inr (.inl (false,s4.2))) else some (.inl (s4.1,w64 (s4.2 + 1))))))) else some (.inr (.inr (s4.1,s4.2))))
def recall_isCase (p0:TL) (p1:(List Int)) : Option Bool :=
 (if ((p1.length:Int) != (p0.fC.length:Int)) = true then some false else ((loopO (recall_isCase_l1 p0 p1) (false,0)).bind fun u5 => match u5 with | (.inl u13) => some u13.1 | (.inr u14) => some true))
def recall_Reach (p0:TL) (p1:(List Int)) (p2:(List Int)) : Option ((List Int) × Int) :=
 ((recall_asked p0 p1).bind fun y2 => (if (y2 != 0) = true then some ([],y2) else ((recall_isCase p0 p2).bind fun y5 => (if (!y5) = true then some ([],1) else ((recall_inCase p2).bind fun y8 => ((rcR p0 p1 (fun x10 x11 => recall_fixed_has p2 x10 x11)).bind fun y12 => ((recall_listed y12).bind fun y15 => some (y15,0))))))))
def slices_Clone_int_int (p0:(List Int)) : Option (List Int) :=
 guardO (0 + p0.length ≤ 1000000000) (some (([]:List Int) ++ p0))
def recall_find_r1 (p0:TL) (p1:(List Int)) (p2:Int) (p3:Bool) (s20:(Bool × (List Int))) (x21:(List Int)) : Option ((Bool × (List Int)) ⊕ (Bool × (List Int))) :=
 ((recall_inCase x21).bind fun y24 => ((rcR p0 p1 (fun x26 x27 => recall_fixed_has x21 x26 x27)).bind fun y28 => guardO (rngB p2 = true) ((if ((mgetV false y28 p2) == p3) = true then ((slices_Clone_int_int x21).bind fun y33 => some (.inr (true,y33))) else some (.inl (s20.1,s20.2))))))
def recall_find (p0:TL) (p1:(List Int)) (p2:Int) (p3:Bool) : Option ((List Int) × Bool) :=
 ((recall_cases p0).bind fun y7 => (guardO (seqCases_ok p0) ((foldO (recall_find_r1 p0 p1 p2 p3) (sCs p0) (false,([]:List Int))).bind fun u22 => match u22 with | .inl u41 => some (u41.2,u41.1) | .inr u42 => some (u42.2,u42.1))))
def recall_Clear (p0:TL) (p1:(List Int)) (p2:Int) : Option ((List Int) × Int) :=
 ((recall_askedTo p0 p1 p2).bind fun y2 => (if (y2 != 0) = true then some ([],y2) else ((recall_find p0 p1 p2 false).bind fun y5 => (if (!y5.2) = true then some ([],5) else some (y5.1,0)))))
def recall_CheckClear (p0:TL) (p1:(List Int)) (p2:Int) (p3:(List Int)) : Option Int :=
 ((recall_askedTo p0 p1 p2).bind fun y2 => (if (y2 != 0) = true then some y2 else ((recall_isCase p0 p3).bind fun y5 => (if (!y5) = true then some 1 else ((recall_inCase p3).bind fun y9 => ((rcR p0 p1 (fun x11 x12 => recall_fixed_has p3 x11 x12)).bind fun y13 => guardO (rngB p2 = true) ((if mgetV false y13 p2 = true then some 8 else some 0))))))))
def recall_walk_1 (p0:TC) (cap0:(List Int)) (cap1:TL) (cap2:Int) (cap3:(List (Int × Bool))) : Option Bool :=
 ((recall_linkOf cap1 p0.fID).bind fun y2 => guardO ((0:Int) ≤ y2 ∧ y2 < (cap0.length:Int)) (guardO ((0:Int) ≤ (rdL cap0 y2) ∧ (rdL cap0 y2) < (p0.fO.length:Int)) (((if (((rdL p0.fO (rdL cap0 y2)).fTo) == cap2) = true then (guardO (rngB ((rdL p0.fO (rdL cap0 y2)).fFrom) = true) (some (mgetV false cap3 ((rdL p0.fO (rdL cap0 y2)).fFrom)))) else (some (false))).bind fun b8 => some b8))))
def slices_Reverse_int_int_l1 (p0:(List Int)) (s3:(Int × Int × (List Int))) : Option ((Int × Int × (List Int)) ⊕ (Int × Int × (List Int))) :=
 (if decide (s3.1 < s3.2.1) = true then guardO ((0:Int) ≤ s3.2.1 ∧ s3.2.1 < (p0.length:Int)) (guardO ((0:Int) ≤ s3.1 ∧ s3.1 < (p0.length:Int)) (guardO ((0:Int) ≤ s3.1 ∧ s3.1 < (p0.length:Int)) (guardO ((0:Int) ≤ s3.2.1 ∧ s3.2.1 < (p0.length:Int)) (some (.inl (w64 (s3.1 + 1),w64 (s3.2.1 - 1),((s3.2.2.set (Int.toNat s3.1) (rdL s3.2.2 s3.2.1)).set (Int.toNat s3.2.1) (rdL s3.2.2 s3.1)))))))) else some (.inr (s3.1,s3.2.1,s3.2.2)))
def slices_Reverse_int_int (p0:(List Int)) : Option (List Int) :=
 ((loopO (slices_Reverse_int_int_l1 p0) (0,w64 ((p0.length:Int) - 1),p0)).bind fun u4 => some u4.2.2)
def recall_walk_l1 (p0:TL) (p1:(List Int)) (p3:(List Int)) (y8:(List (Int × Bool))) (s15:(Int × (List Int))) : Option ((Int × (List Int)) ⊕ (Int × (List Int))) :=
 ((slices_Contains_int_int p1 s15.1).bind fun y17 => (if (!y17) = true then ((slices_IndexFunc_Claim_Claim p0.fC (fun x20 => recall_walk_1 x20 p3 p0 s15.1 y8)).bind fun y21 => guardO ((0:Int) ≤ y21 ∧ y21 < (p0.fC.length:Int)) (guardO (s15.2.length + 1 ≤ 1000000000) (guardO ((0:Int) ≤ y21 ∧ y21 < (p0.fC.length:Int)) (guardO ((0:Int) ≤ y21 ∧ y21 < (p3.length:Int)) (guardO ((0:Int) ≤ (rdL p3 y21) ∧ (rdL p3 y21) < (((rdL p0.fC y21).fO.length : Nat) : Int)) (some (.inl ((rdL ((rdL p0.fC y21).fO) (rdL p3 y21)).fFrom,(s15.2 ++ [(rdL p0.fC y21).fID]))))))))) else some (.inr (s15.1,s15.2))))
def recall_walk (p0:TL) (p1:(List Int)) (p2:Int) (p3:(List Int)) : Option (List Int) :=
 ((recall_inCase p3).bind fun y4 => ((rcR p0 p1 (fun x6 x7 => recall_fixed_has p3 x6 x7)).bind fun y8 => ((loopO (recall_walk_l1 p0 p1 p3 y8) (p2,([]:List Int))).bind fun u16 => ((slices_Reverse_int_int u16.2).bind fun y33 => some y33))))
def recall_Way (p0:TL) (p1:(List Int)) (p2:Int) : Option (TTrace × Int) :=
 ((recall_askedTo p0 p1 p2).bind fun y3 => (if (y3 != 0) = true then some ((TTrace.mk [] []),y3) else ((recall_find p0 p1 p2 true).bind fun y6 => (if (!y6.2) = true then some ((TTrace.mk [] []),5) else ((recall_walk p0 p1 p2 y6.1).bind fun y13 => some ((TTrace.mk y6.1 y13),0))))))
def recall_leads_l1 (p0:TL) (p1:(List Int)) (p3:TTrace) (s10:(Bool × Int × Int)) : Option ((Bool × Int × Int) ⊕ ((Bool × Int × Int) ⊕ (Bool × Int × Int))) :=
 (if decide (s10.2.2 < (p3.fC.length:Int)) = true then guardO ((0:Int) ≤ s10.2.2 ∧ s10.2.2 < (p3.fC.length:Int)) (((recall_linkOf p0 (rdL p3.fC s10.2.2)).bind fun y14 => ((if decide (y14 < 0) = true then (some (true)) else (guardO ((0:Int) ≤ s10.2.2 ∧ s10.2.2 ≤ (p3.fC.length:Int)) (((slices_Contains_int_int (p3.fC.take (Int.toNat s10.2.2)) (rdL p3.fC s10.2.2)).bind fun y33 => some (y33))))).bind fun b17 => (if b17 = true then some (.inr (.inl (false,s10.2.1,s10.2.2))) else guardO ((0:Int) ≤ y14 ∧ y14 < (p0.fC.length:Int)) (guardO ((0:Int) ≤ y14 ∧ y14 < (p3.fCase.length:Int)) (guardO ((0:Int) ≤ (rdL p3.fCase y14) ∧ (rdL p3.fCase y14) < (((rdL p0.fC y14).fO.length : Nat) : Int)) (((if (s10.2.2 == 0) = true then ((slices_Contains_int_int p1 ((rdL ((rdL p0.fC y14).fO) (rdL p3.fCase y14)).fFrom)).bind fun y30 => some ((!y30))) else (some (false))).bind fun b25 => (if (b25 || ((decide (0 < s10.2.2)) && (((rdL ((rdL p0.fC y14).fO) (rdL p3.fCase y14)).fFrom) != s10.2.1))) = true then some (.inr (.inl (false,s10.2.1,s10.2.2))) else some (.inl (s10.1,(rdL ((rdL p0.fC y14).fO) (rdL p3.fCase y14)).fTo,w64 (s10.2.2 + 1)))))))))))) else some (.inr (.inr (s10.1,s10.2.1,s10.2.2))))
def recall_leads (p0:TL) (p1:(List Int)) (p2:Int) (p3:TTrace) : Option Bool :=
 ((recall_isCase p0 p3.fCase).bind fun y3 => (if (!y3) = true then some false else (if ((p3.fC.length:Int) == 0) = true then ((slices_Contains_int_int p1 p2).bind fun y7 => some y7) else ((loopO (recall_leads_l1 p0 p1 p3) (false,0,0)).bind fun u11 => match u11 with | (.inl u36) => some u36.1 | (.inr u37) => some (u37.2.1 == p2)))))
def recall_CheckWay (p0:TL) (p1:(List Int)) (p2:Int) (p3:TTrace) : Option Int :=
 ((recall_askedTo p0 p1 p2).bind fun y3 => (if (y3 != 0) = true then some y3 else ((recall_leads p0 p1 p2 p3).bind fun y6 => (if (!y6) = true then some 8 else some 0))))
def calxlaw09_among_l1 (p0:(List Int)) (p1:Int) (s2:(Bool × Int)) : Option ((Bool × Int) ⊕ ((Bool × Int) ⊕ (Bool × Int))) :=
 (if decide (s2.2 < (p0.length:Int)) = true then guardO ((0:Int) ≤ s2.2 ∧ s2.2 < (p0.length:Int)) ((if ((rdL p0 s2.2) == p1) = true then some (.inr (.inl (true,s2.2))) else some (.inl (s2.1,w64 (s2.2 + 1))))) else some (.inr (.inr (s2.1,s2.2))))
def calxlaw09_among (p0:(List Int)) (p1:Int) : Option Bool :=
 ((loopO (calxlaw09_among_l1 p0 p1) (false,0)).bind fun u3 => match u3 with | (.inl u8) => some u8.1 | (.inr u9) => some false)
def calxlaw09_all_l1 (p0:(List Int)) (p1:(List Int)) (s2:(Bool × Int)) : Option ((Bool × Int) ⊕ ((Bool × Int) ⊕ (Bool × Int))) :=
 (if decide (s2.2 < (p1.length:Int)) = true then guardO ((0:Int) ≤ s2.2 ∧ s2.2 < (p1.length:Int)) (((calxlaw09_among p0 (rdL p1 s2.2)).bind fun y6 => (if (!y6) = true then some (.inr (.inl (false,s2.2))) else some (.inl (s2.1,w64 (s2.2 + 1)))))) else some (.inr (.inr (s2.1,s2.2))))
def calxlaw09_all (p0:(List Int)) (p1:(List Int)) : Option Bool :=
 ((loopO (calxlaw09_all_l1 p0 p1) (false,0)).bind fun u3 => match u3 with | (.inl u10) => some u10.1 | (.inr u11) => some true)
def calxlaw09_hanging (p0:TL) (p1:(List Int)) (p2:TTrace) (p3:(List Int)) (p4:(List Int)) : Option Bool :=
 ((recall_Reach p0 p1 p2.fCase).bind fun y3 => ((if (y3.2 == 0) = true then ((calxlaw09_all p2.fC p3).bind fun y17 => some (y17)) else (some (false))).bind fun b10 => ((if b10 = true then ((calxlaw09_all y3.1 p4).bind fun y15 => some (y15)) else (some (false))).bind fun b13 => some b13)))
def calxlaw09_RecallHanging_l1 (p0:TL) (p1:(List Int)) (p2:Int) (y11:((List Int) × Int)) (s47:(Bool × Int)) : Option ((Bool × Int) ⊕ ((Bool × Int) ⊕ (Bool × Int))) :=
 (if decide (s47.2 < (y11.1.length:Int)) = true then guardO ((0:Int) ≤ s47.2 ∧ s47.2 < (y11.1.length:Int)) (((recall_CheckCut p0 p1 p2 [(rdL y11.1 s47.2)]).bind fun y53 => (if (y53 != 0) = true then some (.inr (.inl (false,s47.2))) else some (.inl (s47.1,w64 (s47.2 + 1)))))) else some (.inr (.inr (s47.1,s47.2))))
def calxlaw09_RecallHanging (p0:TL) (p1:(List Int)) (p2:Int) (p3:TTrace) : Option Bool :=
 ((calxlaw09_head).bind fun y3 => ((calxlaw09_few p0).bind fun y5 => (if ((((!y5) || (decide (30 < (p1.length:Int)))) || (decide (100 < (p3.fCase.length:Int)))) || (decide (100 < (p3.fC.length:Int)))) = true then some y3 else ((recall_Hangs p0 p1 p2).bind fun y11 => ((recall_Gates p0 p1 p2).bind fun y17 => ((recall_Way p0 p1 p2).bind fun y23 => (if ((y11.2 != y17.2) || (y11.2 != y23.2)) = true then some false else (if (y11.2 != 0) = true then some y3 else ((recall_CheckWay p0 p1 p2 p3).bind fun y37 => ((if (y37 == 0) = true then ((calxlaw09_hanging p0 p1 p3 y11.1 y17.1).bind fun y61 => some ((!y61))) else (some (false))).bind fun b40 => ((if b40 = true then (some (true)) else ((calxlaw09_hanging p0 p1 y23.1 y11.1 y17.1).bind fun y59 => some ((!y59)))).bind fun b43 => (if b43 = true then some false else ((loopO (calxlaw09_RecallHanging_l1 p0 p1 p2 y11) (false,0)).bind fun u48 => match u48 with | (.inl u57) => some u57.1 | (.inr u58) => some y3)))))))))))))
end
end Go.Proofs.YtbblpokfbmekfaaGreat
