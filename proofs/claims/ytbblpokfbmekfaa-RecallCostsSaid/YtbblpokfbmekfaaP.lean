import Derived.Test.YtbblpokfbmekfaaGt
/- What the functions of the translation hand back, as plain functions. No program in sight. -/
set_option linter.unusedVariables false
namespace Go.Proofs.Ytbblpokfbmekfaa
noncomputable section
structure TNode where
 fID : Int
 fLevel : Int
 fCost : Int
 deriving DecidableEq
instance : Inhabited TNode:=⟨⟨default,default,default⟩⟩

def TNode_rg (x:TNode) : Prop:=Rg_i64 x.fID ∧ Rg_i64 x.fLevel ∧ Rg_i64 x.fCost

structure THop where
 fFrom : Int
 fTo : Int
 deriving DecidableEq
instance : Inhabited THop:=⟨⟨default,default⟩⟩

def THop_rg (x:THop) : Prop:=Rg_i64 x.fFrom ∧ Rg_i64 x.fTo

structure TClaim where
 fID : Int
 fOptions : (List THop)
 deriving DecidableEq
instance : Inhabited TClaim:=⟨⟨default,default⟩⟩

def TClaim_rg (x:TClaim) : Prop:=Rg_i64 x.fID ∧ (Rg_list THop_rg x.fOptions)

structure TLineage where
 fNodes : (List TNode)
 fClaims : (List TClaim)
 deriving DecidableEq
instance : Inhabited TLineage:=⟨⟨default,default⟩⟩

def TLineage_rg (x:TLineage) : Prop:=(Rg_list TNode_rg x.fNodes) ∧ (Rg_list TClaim_rg x.fClaims)

structure TRatio where
 fNum : Int
 fDen : Int
 deriving DecidableEq
instance : Inhabited TRatio:=⟨⟨default,default⟩⟩

def TRatio_rg (x:TRatio) : Prop:=Rg_i64 x.fNum ∧ Rg_i64 x.fDen

structure Tasking where
 f_id : Int
 f_left : Int
 deriving DecidableEq
instance : Inhabited Tasking:=⟨⟨default,default⟩⟩

def Tasking_rg (x:Tasking) : Prop:=Rg_i64 x.f_id ∧ Rg_i64 x.f_left


def recall_within (p0_n:Int) (p1_lo:Int) (p2_hi:Int) : Option Bool :=
 some ((decide (p1_lo ≤ p0_n)) && (decide (p0_n ≤ p2_hi)))

def slices_IndexFunc_Node_Node_l1 (p0_s:(List TNode)) (p1_f:TNode → Option Bool) (s2:(Int × Int)) : Option ((Int × Int) ⊕ ((Int × Int) ⊕ (Int × Int))) :=
 (if decide (s2.2 < (p0_s.length:Int)) = true then guardO ((0:Int) ≤ s2.2 ∧ s2.2 < (p0_s.length:Int)) (((p1_f (TNode.mk ((rdL p0_s s2.2).fID) ((rdL p0_s s2.2).fLevel) ((rdL p0_s s2.2).fCost))).bind fun y6 => (if y6 = true then some (.inr (.inl (s2.2,s2.2))) else some (.inl (s2.1,w64 (s2.2 + 1)))))) else some (.inr (.inr (s2.1,s2.2))))
def slices_IndexFunc_Node_Node (p0_s:(List TNode)) (p1_f:TNode → Option Bool) : Option Int :=
 ((loopO (slices_IndexFunc_Node_Node_l1 p0_s p1_f) (0,0)).bind fun u3 => match u3 with | (.inl u10) => some u10.1 | (.inr u11) => some (-1))

def recall_nodeOf_1 (p0_n:TNode) (cap0:Int) : Option Bool :=
 some (p0_n.fID == cap0)

def recall_nodeOf (p0_l:TLineage) (p1_id:Int) : Option Int :=
 ((slices_IndexFunc_Node_Node p0_l.fNodes (fun x3 => recall_nodeOf_1 x3 p1_id)).bind fun y4 => some y4)

def slices_Index_Hop_Hop_l1 (p0_s:(List THop)) (p1_v:THop) (s3:(Int × Int)) : Option ((Int × Int) ⊕ ((Int × Int) ⊕ (Int × Int))) :=
 (if decide (s3.2 < (p0_s.length:Int)) = true then guardO ((0:Int) ≤ s3.2 ∧ s3.2 < (p0_s.length:Int)) ((if ((p1_v.fFrom == (rdL p0_s s3.2).fFrom) && (p1_v.fTo == (rdL p0_s s3.2).fTo)) = true then some (.inr (.inl (s3.2,s3.2))) else some (.inl (s3.1,w64 (s3.2 + 1))))) else some (.inr (.inr (s3.1,s3.2))))
def slices_Index_Hop_Hop (p0_s:(List THop)) (p1_v:THop) : Option Int :=
 ((loopO (slices_Index_Hop_Hop_l1 p0_s p1_v) (0,0)).bind fun u4 => match u4 with | (.inl u9) => some u9.1 | (.inr u10) => some (-1))

def slices_Contains_Hop_Hop (p0_s:(List THop)) (p1_v:THop) : Option Bool :=
 ((slices_Index_Hop_Hop p0_s p1_v).bind fun y2 => some (decide (0 ≤ y2)))

def recall_options_l1 (p0_l:TLineage) (p1_o:(List THop)) (s6:(Bool × Int)) : Option ((Bool × Int) ⊕ ((Bool × Int) ⊕ (Bool × Int))) :=
 (if decide (s6.2 < (p1_o.length:Int)) = true then guardO ((0:Int) ≤ s6.2 ∧ s6.2 < (p1_o.length:Int)) (((recall_nodeOf p0_l ((rdL p1_o s6.2).fFrom)).bind fun y11 => ((recall_nodeOf p0_l ((rdL p1_o s6.2).fTo)).bind fun y13 => ((if ((decide (y11 < 0)) || (decide (y13 < 0))) = true then (some (true)) else (guardO ((0:Int) ≤ y11 ∧ y11 < (p0_l.fNodes.length:Int)) (guardO ((0:Int) ≤ y13 ∧ y13 < (p0_l.fNodes.length:Int)) (some (decide ((rdL p0_l.fNodes y13).fLevel ≤ (rdL p0_l.fNodes y11).fLevel)))))).bind fun b17 => ((if b17 = true then (some (true)) else (guardO ((0:Int) ≤ s6.2 ∧ s6.2 ≤ (p1_o.length:Int)) (((slices_Contains_Hop_Hop (p1_o.take (Int.toNat s6.2)) (THop.mk ((rdL p1_o s6.2).fFrom) ((rdL p1_o s6.2).fTo))).bind fun y24 => some (y24))))).bind fun b20 => (if b20 = true then some (.inr (.inl (false,s6.2))) else some (.inl (s6.1,w64 (s6.2 + 1))))))))) else some (.inr (.inr (s6.1,s6.2))))
def recall_options (p0_l:TLineage) (p1_o:(List THop)) : Option Bool :=
 ((recall_within (p1_o.length:Int) 1 4).bind fun y2 => (if (!y2) = true then some false else ((loopO (recall_options_l1 p0_l p1_o) (false,0)).bind fun u7 => match u7 with | (.inl u29) => some u29.1 | (.inr u30) => some true)))

def slices_IndexFunc_Claim_Claim_l1 (p0_s:(List TClaim)) (p1_f:TClaim → Option Bool) (s2:(Int × Int)) : Option ((Int × Int) ⊕ ((Int × Int) ⊕ (Int × Int))) :=
 (if decide (s2.2 < (p0_s.length:Int)) = true then guardO ((0:Int) ≤ s2.2 ∧ s2.2 < (p0_s.length:Int)) (((p1_f (TClaim.mk ((rdL p0_s s2.2).fID) ((rdL p0_s s2.2).fOptions))).bind fun y6 => (if y6 = true then some (.inr (.inl (s2.2,s2.2))) else some (.inl (s2.1,w64 (s2.2 + 1)))))) else some (.inr (.inr (s2.1,s2.2))))
def slices_IndexFunc_Claim_Claim (p0_s:(List TClaim)) (p1_f:TClaim → Option Bool) : Option Int :=
 ((loopO (slices_IndexFunc_Claim_Claim_l1 p0_s p1_f) (0,0)).bind fun u3 => match u3 with | (.inl u10) => some u10.1 | (.inr u11) => some (-1))

def recall_linkOf_1 (p0_x:TClaim) (cap0:Int) : Option Bool :=
 some (p0_x.fID == cap0)

def recall_linkOf (p0_l:TLineage) (p1_id:Int) : Option Int :=
 ((slices_IndexFunc_Claim_Claim p0_l.fClaims (fun x3 => recall_linkOf_1 x3 p1_id)).bind fun y4 => some y4)

def recall_Check_l1 (p0:TLineage) (s5:(Int × Int)) : Option ((Int × Int) ⊕ ((Int × Int) ⊕ (Int × Int))) :=
 (if decide (s5.2 < (p0.fNodes.length:Int)) = true then guardO ((0:Int) ≤ s5.2 ∧ s5.2 < (p0.fNodes.length:Int)) (((recall_within ((rdL p0.fNodes s5.2).fID) 1 1099511627776).bind fun y10 => ((if (!y10) = true then (some (true)) else ((recall_within ((rdL p0.fNodes s5.2).fLevel) 0 9).bind fun y24 => some ((!y24)))).bind fun b13 => ((if b13 = true then (some (true)) else ((recall_within ((rdL p0.fNodes s5.2).fCost) 0 1073741824).bind fun y22 => some ((!y22)))).bind fun b16 => (if b16 = true then some (.inr (.inl (1,s5.2))) else ((recall_nodeOf p0 ((rdL p0.fNodes s5.2).fID)).bind fun y19 => (if decide (y19 < s5.2) = true then some (.inr (.inl (6,s5.2))) else some (.inl (s5.1,w64 (s5.2 + 1)))))))))) else some (.inr (.inr (s5.1,s5.2))))
def recall_Check_l2 (p0:TLineage) (s30:(Int × Int × Int)) : Option ((Int × Int × Int) ⊕ ((Int × Int × Int) ⊕ (Int × Int × Int))) :=
 (if decide (s30.2.2 < (p0.fClaims.length:Int)) = true then guardO ((0:Int) ≤ s30.2.2 ∧ s30.2.2 < (p0.fClaims.length:Int)) (((recall_within ((rdL p0.fClaims s30.2.2).fID) 1 1099511627776).bind fun y35 => ((if (!y35) = true then (some (true)) else ((recall_options p0 ((rdL p0.fClaims s30.2.2).fOptions)).bind fun y44 => some ((!y44)))).bind fun b38 => (if b38 = true then some (.inr (.inl (1,s30.2.1,s30.2.2))) else ((recall_linkOf p0 ((rdL p0.fClaims s30.2.2).fID)).bind fun y41 => (if decide (y41 < s30.2.2) = true then some (.inr (.inl (6,s30.2.1,s30.2.2))) else some (.inl (s30.1,min (w64 (s30.2.1 * (((rdL p0.fClaims s30.2.2).fOptions.length : Nat) : Int))) 4097,w64 (s30.2.2 + 1))))))))) else some (.inr (.inr (s30.1,s30.2.1,s30.2.2))))
def recall_Check (p0:TLineage) : Option Int :=
 (if ((decide (60 < (p0.fNodes.length:Int))) || (decide (80 < (p0.fClaims.length:Int)))) = true then some 2 else ((loopO (recall_Check_l1 p0) (0,0)).bind fun u6 => match u6 with | (.inl u27) => some u27.1 | (.inr u28) => ((loopO (recall_Check_l2 p0) (u28.1,1,0)).bind fun u31 => match u31 with | (.inl u47) => some u47.1 | (.inr u48) => (if decide (4096 < u48.2.1) = true then some 2 else some 0))))

def seqCases_ok (l:TLineage) : Prop:=l.fClaims.length ≤ 1000 ∧ ∀ x ∈ l.fClaims,0 < x.fOptions.length ∧ x.fOptions.length ≤ 1000
instance (l:TLineage) : Decidable (seqCases_ok l):=by unfold seqCases_ok; infer_instance
def seqCases_ks (l:TLineage) : List Nat:=l.fClaims.map fun x => x.fOptions.length
def seqCases (l:TLineage) : List (List Int):=allC (seqCases_ks l)
def recall_cases_1_l2 (cap0:TLineage) (s10:(Int × (List Int))) : Option ((Int × (List Int)) ⊕ (Int × (List Int))) :=
 ((if decide (0 ≤ s10.1) = true then (guardO ((0:Int) ≤ s10.1 ∧ s10.1 < (cap0.fClaims.length:Int)) (guardO ((0:Int) ≤ s10.1 ∧ s10.1 < (cap0.fClaims.length:Int)) (some (((w64 ((rdL s10.2 s10.1) + 1)) == (((rdL cap0.fClaims s10.1).fOptions.length : Nat) : Int)))))) else (some (false))).bind fun b13 => (if b13 = true then guardO ((0:Int) ≤ s10.1 ∧ s10.1 < (cap0.fClaims.length:Int)) (some (.inl (w64 (s10.1 - 1),(s10.2.set (Int.toNat s10.1) 0)))) else some (.inr (s10.1,s10.2))))


def recall_cases (p0_l:TLineage) : Option Unit :=
 some ()

def recall_Cases_r1 (s19:Int) (x20:(List Int)) : Option (Int ⊕ Unit) :=
 some (.inl (w64 (s19 + 1)))
def recall_Cases (p0_l:TLineage) : Option (Int × Int) :=
 ((recall_Check p0_l).bind fun y2 => (if (y2 != 0) = true then some (0,y2) else ((recall_cases p0_l).bind fun y6 => (guardO (seqCases_ok p0_l) ((foldO (recall_Cases_r1) (seqCases p0_l) 0).bind fun u21 => match u21 with | .inl u24 => some (u24,0) | .inr _ => none)))))

def recall_increasing_int_l1 (p0_l:(List Int)) (p1_id:Int → Option Int) (p2_so:Int → Option Bool) (s2:(Bool × Int)) : Option ((Bool × Int) ⊕ ((Bool × Int) ⊕ (Bool × Int))) :=
 (if decide (s2.2 < (p0_l.length:Int)) = true then guardO ((0:Int) ≤ s2.2 ∧ s2.2 < (p0_l.length:Int)) (((p1_id (rdL p0_l s2.2)).bind fun y6 => ((p2_so y6).bind fun y8 => ((if (!y8) = true then (some (true)) else ((if decide (0 < s2.2) = true then ((p1_id (rdL p0_l s2.2)).bind fun y17 => guardO ((0:Int) ≤ w64 (s2.2 - 1) ∧ w64 (s2.2 - 1) < (p0_l.length:Int)) (((p1_id (rdL p0_l (w64 (s2.2 - 1)))).bind fun y20 => some (decide (y17 ≤ y20))))) else (some (false))).bind fun b15 => some (b15))).bind fun b11 => (if b11 = true then some (.inr (.inl (false,s2.2))) else some (.inl (s2.1,w64 (s2.2 + 1)))))))) else some (.inr (.inr (s2.1,s2.2))))
def recall_increasing_int (p0_l:(List Int)) (p1_id:Int → Option Int) (p2_so:Int → Option Bool) : Option Bool :=
 ((loopO (recall_increasing_int_l1 p0_l p1_id p2_so) (false,0)).bind fun u3 => match u3 with | (.inl u23) => some u23.1 | (.inr u24) => some true)

def recall_own (p0_n:Int) : Option Int :=
 some p0_n

def recall_isFrom_1 (p0_id:Int) (cap0:TLineage) : Option Bool :=
 ((recall_nodeOf cap0 p0_id).bind fun y1 => some (decide (0 ≤ y1)))

def recall_isFrom (p0_l:TLineage) (p1_from:(List Int)) : Option Bool :=
 ((if decide (0 < (p1_from.length:Int)) = true then ((recall_increasing_int p1_from (fun x5 => recall_own x5) (fun x6 => recall_isFrom_1 x6 p0_l)).bind fun y7 => some (y7)) else (some (false))).bind fun b3 => some b3)

def recall_asked (p0_l:TLineage) (p1_from:(List Int)) : Option Int :=
 ((recall_Check p0_l).bind fun y2 => (if (y2 != 0) = true then some y2 else ((recall_isFrom p0_l p1_from).bind fun y5 => (if (!y5) = true then some 1 else some 0))))

def cmp_isNaN_int (p0_x:Int) : Option Bool :=
 some (p0_x != p0_x)

def cmp_Less_int (p0_x:Int) (p1_y:Int) : Option Bool :=
 ((cmp_isNaN_int p0_x).bind fun y1 => ((if y1 = true then ((cmp_isNaN_int p1_y).bind fun y7 => some ((!y7))) else (some (false))).bind fun b4 => some (b4 || (decide (p0_x < p1_y)))))

def slices_insertionSortOrdered_int_l2 (p0_data:(List Int)) (p1_a:Int) (s8:(Int × (List Int))) : Option ((Int × (List Int)) ⊕ (Int × (List Int))) :=
 ((if decide (p1_a < s8.1) = true then (guardO ((0:Int) ≤ s8.1 ∧ s8.1 < (p0_data.length:Int)) (guardO ((0:Int) ≤ w64 (s8.1 - 1) ∧ w64 (s8.1 - 1) < (p0_data.length:Int)) (((cmp_Less_int (rdL s8.2 s8.1) (rdL s8.2 (w64 (s8.1 - 1)))).bind fun y21 => some (y21))))) else (some (false))).bind fun b11 => (if b11 = true then guardO ((0:Int) ≤ w64 (s8.1 - 1) ∧ w64 (s8.1 - 1) < (p0_data.length:Int)) (guardO ((0:Int) ≤ s8.1 ∧ s8.1 < (p0_data.length:Int)) (guardO ((0:Int) ≤ s8.1 ∧ s8.1 < (p0_data.length:Int)) (guardO ((0:Int) ≤ w64 (s8.1 - 1) ∧ w64 (s8.1 - 1) < (p0_data.length:Int)) (some (.inl (w64 (s8.1 - 1),((s8.2.set (Int.toNat s8.1) (rdL s8.2 (w64 (s8.1 - 1)))).set (Int.toNat (w64 (s8.1 - 1))) (rdL s8.2 s8.1)))))))) else some (.inr (s8.1,s8.2))))
def slices_insertionSortOrdered_int_l1 (p0_data:(List Int)) (p1_a:Int) (p2_b:Int) (s3:(Int × (List Int))) : Option ((Int × (List Int)) ⊕ (Int × (List Int))) :=
 (if decide (s3.1 < p2_b) = true then ((loopO (slices_insertionSortOrdered_int_l2 p0_data p1_a) (s3.1,s3.2)).bind fun u9 => some (.inl (w64 (s3.1 + 1),u9.2))) else some (.inr (s3.1,s3.2)))
def slices_insertionSortOrdered_int (p0_data:(List Int)) (p1_a:Int) (p2_b:Int) : Option (List Int) :=
 ((loopO (slices_insertionSortOrdered_int_l1 p0_data p1_a p2_b) (w64 (p1_a + 1),p0_data)).bind fun u4 => some u4.2)

def lenv (x:Int) : Int:=if x < 1 then 0 else if x < 2 then 1 else if x < 4 then 2 else if x < 8 then 3 else 4
def math_bits_Len64 (p0_x:Int) : Option Int:=guardO (0 ≤ p0_x ∧ p0_x < 16) (some (w64 (0 + lenv p0_x)))


def math_bits_Len (p0_x:Int) : Option Int :=
 ((math_bits_Len64 p0_x).bind fun y1 => some y1)

def slices_pdqsortOrdered_int_l1 (s3:(Int × Int × Int × Bool × Bool × (List Int))) : Option ((Int × Int × Int × Bool × Bool × (List Int)) ⊕ (Int × Int × Int × Bool × Bool × (List Int))) :=
 guardO (decide (w64 (s3.2.1 - s3.1) ≤ 12) = true) (((slices_insertionSortOrdered_int s3.2.2.2.2.2 s3.1 s3.2.1).bind fun y6 => some (.inr (s3.1,s3.2.1,s3.2.2.1,s3.2.2.2.1,s3.2.2.2.2.1,y6))))
def slices_pdqsortOrdered_int (p0:(List Int)) (p1:Int) (p2:Int) (p3:Int) : Option (List Int) :=
 ((loopO (slices_pdqsortOrdered_int_l1) (p1,p2,p3,true,true,p0)).bind fun u4 => some u4.2.2.2.2.2)

def slices_Sort_int_int (p0_x:(List Int)) : Option (List Int):=guardO (p0_x.length ≤ 12) (some (srtI p0_x))


def recall_listed (p0_set:(List (Int × Bool))) : Option (List Int):=guardO (p0_set.length ≤ 1000000 ∧ (listedV p0_set).length ≤ 12 ∧ p0_set.all (fun p => rngB p.1) = true) (some (listedV p0_set))


def slices_insertionSortCmpFunc_int_l2 (p0_data:(List Int)) (p1_a:Int) (p3_cmp:Int → Int → Option Int) (s8:(Int × (List Int))) : Option ((Int × (List Int)) ⊕ (Int × (List Int))) :=
 ((if decide (p1_a < s8.1) = true then (guardO ((0:Int) ≤ s8.1 ∧ s8.1 < (p0_data.length:Int)) (guardO ((0:Int) ≤ w64 (s8.1 - 1) ∧ w64 (s8.1 - 1) < (p0_data.length:Int)) (((p3_cmp (rdL s8.2 s8.1) (rdL s8.2 (w64 (s8.1 - 1)))).bind fun y21 => some (decide (y21 < 0)))))) else (some (false))).bind fun b11 => (if b11 = true then guardO ((0:Int) ≤ w64 (s8.1 - 1) ∧ w64 (s8.1 - 1) < (p0_data.length:Int)) (guardO ((0:Int) ≤ s8.1 ∧ s8.1 < (p0_data.length:Int)) (guardO ((0:Int) ≤ s8.1 ∧ s8.1 < (p0_data.length:Int)) (guardO ((0:Int) ≤ w64 (s8.1 - 1) ∧ w64 (s8.1 - 1) < (p0_data.length:Int)) (some (.inl (w64 (s8.1 - 1),((s8.2.set (Int.toNat s8.1) (rdL s8.2 (w64 (s8.1 - 1)))).set (Int.toNat (w64 (s8.1 - 1))) (rdL s8.2 s8.1)))))))) else some (.inr (s8.1,s8.2))))
def slices_insertionSortCmpFunc_int_l1 (p0_data:(List Int)) (p1_a:Int) (p2_b:Int) (p3_cmp:Int → Int → Option Int) (s3:(Int × (List Int))) : Option ((Int × (List Int)) ⊕ (Int × (List Int))) :=
 (if decide (s3.1 < p2_b) = true then ((loopO (slices_insertionSortCmpFunc_int_l2 p0_data p1_a p3_cmp) (s3.1,s3.2)).bind fun u9 => some (.inl (w64 (s3.1 + 1),u9.2))) else some (.inr (s3.1,s3.2)))
def slices_insertionSortCmpFunc_int (p0_data:(List Int)) (p1_a:Int) (p2_b:Int) (p3_cmp:Int → Int → Option Int) : Option (List Int) :=
 ((loopO (slices_insertionSortCmpFunc_int_l1 p0_data p1_a p2_b p3_cmp) (w64 (p1_a + 1),p0_data)).bind fun u4 => some u4.2)

def slices_stableCmpFunc_int_l1 (p1_n:Int) (s2:(Int × Int)) : Option ((Int × Int) ⊕ (Int × Int)) :=
 guardO (decide (s2.2 ≤ p1_n) = false) (some (.inr (s2.1,s2.2)))
def slices_stableCmpFunc_int_l2 (p1_n:Int) (s10:(Int × Int × Int)) : Option ((Int × Int × Int) ⊕ (Int × Int × Int)) :=
 guardO (decide (s10.1 < p1_n) = false) (some (.inr (s10.1,s10.2.1,s10.2.2)))
def slices_stableCmpFunc_int (p0_data:(List Int)) (p1_n:Int) (p2_cmp:Int → Int → Option Int) : Option (List Int) :=
 ((loopO (slices_stableCmpFunc_int_l1 p1_n) (0,20)).bind fun u3 => ((slices_insertionSortCmpFunc_int p0_data u3.1 p1_n p2_cmp).bind fun y6 => ((loopO (slices_stableCmpFunc_int_l2 p1_n) (20,u3.1,u3.2)).bind fun u11 => some y6)))

def slices_SortStableFunc_int_int (p0_x:(List Int)) (p1_cmp:Int → Int → Option Int) : Option (List Int) :=
 ((slices_stableCmpFunc_int p0_x (p0_x.length:Int) p1_cmp).bind fun y1 => some y1)

def cmp_Compare_int (p0_x:Int) (p1_y:Int) : Option Int :=
 ((cmp_isNaN_int p0_x).bind fun y1 => ((cmp_isNaN_int p1_y).bind fun y3 => (if y1 = true then (if y3 = true then some 0 else some (-1)) else (if y3 = true then some 1 else (if decide (p0_x < p1_y) = true then some (-1) else (if decide (p1_y < p0_x) = true then some 1 else some 0))))))

def recall_levels_1 (p0_a:Int) (p1_b:Int) (cap0:TLineage) : Option Int :=
 guardO ((0:Int) ≤ p0_a ∧ p0_a < (cap0.fNodes.length:Int)) (guardO ((0:Int) ≤ p1_b ∧ p1_b < (cap0.fNodes.length:Int)) (((cmp_Compare_int ((rdL cap0.fNodes p0_a).fLevel) ((rdL cap0.fNodes p1_b).fLevel)).bind fun y3 => some y3)))

def recall_levels_l1 (p0_l:TLineage) (s6:(Int × (List Int))) : Option ((Int × (List Int)) ⊕ (Int × (List Int))) :=
 (if decide (s6.1 < ((Int.toNat (p0_l.fNodes.length:Int) : Nat) : Int)) = true then guardO ((0:Int) ≤ s6.1 ∧ s6.1 < ((Int.toNat (p0_l.fNodes.length:Int) : Nat) : Int)) (some (.inl (w64 (s6.1 + 1),(s6.2.set (Int.toNat s6.1) s6.1)))) else some (.inr (s6.1,s6.2)))
def recall_levels (p0_l:TLineage) : Option (List Int) :=
 guardO ((0:Int) ≤ (p0_l.fNodes.length:Int) ∧ (p0_l.fNodes.length:Int) * 8 ≤ 281474976710656) (((loopO (recall_levels_l1 p0_l) (0,(List.replicate (Int.toNat (p0_l.fNodes.length:Int)) 0))).bind fun u7 => ((slices_SortStableFunc_int_int u7.2 (fun x11 x12 => recall_levels_1 x11 x12 p0_l)).bind fun y13 => some y13)))

def recall_reach_l2 (p0:TLineage) (p2:Int → Int → Option Bool) (s5:(Int × (List (Int × (List Int))))) (s12:(Int × (List (Int × (List Int))))) : Option ((Int × (List (Int × (List Int)))) ⊕ (Int × (List (Int × (List Int))))) :=
 (if decide (s12.1 < (((rdL p0.fClaims s5.1).fOptions.length : Nat) : Int)) = true then guardO ((0:Int) ≤ s12.1 ∧ s12.1 < (((rdL p0.fClaims s5.1).fOptions.length : Nat) : Int)) (((p2 s5.1 s12.1).bind fun y17 => (if y17 = true then guardO (rngB ((rdL ((rdL p0.fClaims s5.1).fOptions) s12.1).fFrom) = true) (guardO ((mgetV [] s12.2 ((rdL ((rdL p0.fClaims s5.1).fOptions) s12.1).fFrom)).length + 1 ≤ 1000000000) (guardO (rngB ((rdL ((rdL p0.fClaims s5.1).fOptions) s12.1).fFrom) = true ∧ List.length s12.2 < 1000000) (some (.inl (w64 (s12.1 + 1),(((rdL ((rdL p0.fClaims s5.1).fOptions) s12.1).fFrom,((mgetV [] s12.2 ((rdL ((rdL p0.fClaims s5.1).fOptions) s12.1).fFrom)) ++ [(rdL ((rdL p0.fClaims s5.1).fOptions) s12.1).fTo])) :: s12.2)))))) else some (.inl (w64 (s12.1 + 1),s12.2))))) else some (.inr (s12.1,s12.2)))
def recall_reach_l1 (p0:TLineage) (p2:Int → Int → Option Bool) (s5:(Int × (List (Int × (List Int))))) : Option ((Int × (List (Int × (List Int)))) ⊕ (Int × (List (Int × (List Int))))) :=
 (if decide (s5.1 < (p0.fClaims.length:Int)) = true then guardO ((0:Int) ≤ s5.1 ∧ s5.1 < (p0.fClaims.length:Int)) (((loopO (recall_reach_l2 p0 p2 s5) (0,s5.2)).bind fun u13 => some (.inl (w64 (s5.1 + 1),u13.2)))) else some (.inr (s5.1,s5.2)))
def recall_reach_l3 (p1:(List Int)) (s32:(Int × (List (Int × Bool)))) : Option ((Int × (List (Int × Bool))) ⊕ (Int × (List (Int × Bool)))) :=
 (if decide (s32.1 < (p1.length:Int)) = true then guardO ((0:Int) ≤ s32.1 ∧ s32.1 < (p1.length:Int)) (guardO (rngB (rdL p1 s32.1) = true ∧ List.length s32.2 < 1000000) (some (.inl (w64 (s32.1 + 1),(((rdL p1 s32.1),true) :: s32.2))))) else some (.inr (s32.1,s32.2)))
def recall_reach_l5 (p0:TLineage) (u6:(Int × (List (Int × (List Int))))) (y38:(List Int)) (s46:(Int × (List (Int × Bool)))) (s56:(Int × (List (Int × Bool)))) : Option ((Int × (List (Int × Bool))) ⊕ (Int × (List (Int × Bool)))) :=
 (if decide (s56.1 < (((mgetV [] u6.2 ((rdL p0.fNodes (rdL y38 s46.1)).fID)).length : Nat) : Int)) = true then guardO ((0:Int) ≤ s56.1 ∧ s56.1 < (((mgetV [] u6.2 ((rdL p0.fNodes (rdL y38 s46.1)).fID)).length : Nat) : Int)) (guardO (rngB (rdL (mgetV [] u6.2 ((rdL p0.fNodes (rdL y38 s46.1)).fID)) s56.1) = true ∧ List.length s56.2 < 1000000) (some (.inl (w64 (s56.1 + 1),(((rdL (mgetV [] u6.2 ((rdL p0.fNodes (rdL y38 s46.1)).fID)) s56.1),true) :: s56.2))))) else some (.inr (s56.1,s56.2)))
def recall_reach_l4 (p0:TLineage) (u6:(Int × (List (Int × (List Int))))) (y38:(List Int)) (s46:(Int × (List (Int × Bool)))) : Option ((Int × (List (Int × Bool))) ⊕ (Int × (List (Int × Bool)))) :=
 (if decide (s46.1 < (y38.length:Int)) = true then guardO ((0:Int) ≤ s46.1 ∧ s46.1 < (y38.length:Int)) (guardO ((0:Int) ≤ (rdL y38 s46.1) ∧ (rdL y38 s46.1) < (p0.fNodes.length:Int)) (guardO (rngB ((rdL p0.fNodes (rdL y38 s46.1)).fID) = true) ((if (!(mgetV false s46.2 ((rdL p0.fNodes (rdL y38 s46.1)).fID))) = true then some (.inl (w64 (s46.1 + 1),s46.2)) else guardO (rngB ((rdL p0.fNodes (rdL y38 s46.1)).fID) = true) (((loopO (recall_reach_l5 p0 u6 y38 s46) (0,s46.2)).bind fun u57 => some (.inl (w64 (s46.1 + 1),u57.2)))))))) else some (.inr (s46.1,s46.2)))
def recall_reach (p0:TLineage) (p1:(List Int)) (p2:Int → Int → Option Bool) : Option (List (Int × Bool)) :=
 ((loopO (recall_reach_l1 p0 p2) (0,([]:(List (Int × (List Int)))))).bind fun u6 => ((loopO (recall_reach_l3 p1) (0,[])).bind fun u33 => ((recall_levels p0).bind fun y38 => ((loopO (recall_reach_l4 p0 u6 y38) (0,u33.2)).bind fun u47 => some u47.2))))

def recall_fixed_has (p0_c:(List Int)) (p1_link:Int) (p2_h:Int) : Option Bool :=
 guardO ((0:Int) ≤ p1_link ∧ p1_link < (p0_c.length:Int)) (some ((rdL p0_c p1_link) == p2_h))

def recall_inCase (p0_c:(List Int)) : Option Unit :=
 some ()

def recall_possible_r1 (p0_l:TLineage) (p1_from:(List Int)) (s18:(List (Int × Bool))) (x19:(List Int)) : Option ((List (Int × Bool)) ⊕ Unit) :=
 ((recall_inCase x19).bind fun y21 => ((recall_reach p0_l p1_from (fun x23 x24 => recall_fixed_has x19 x23 x24)).bind fun y25 => guardO (List.length s18 + List.length y25 ≤ 1000000) (some (.inl (unionV true y25 s18)))))
def recall_possible (p0_l:TLineage) (p1_from:(List Int)) : Option (List (Int × Bool)) :=
 ((recall_cases p0_l).bind fun y5 => (guardO (seqCases_ok p0_l) ((foldO (recall_possible_r1 p0_l p1_from) (seqCases p0_l) []).bind fun u20 => match u20 with | .inl u45 => some u45 | .inr _ => none)))

def recall_sure_r1 (p0_l:TLineage) (p1_from:(List Int)) (s20:(List (Int × Bool))) (x21:(List Int)) : Option ((List (Int × Bool)) ⊕ Unit) :=
 ((recall_inCase x21).bind fun y23 => ((recall_reach p0_l p1_from (fun x25 x26 => recall_fixed_has x21 x25 x26)).bind fun y27 => some (.inl (s20.filter (fun p => !(fun y33 => (!(mgetV false y27 y33))) p.1)))))
def recall_sure (p0_l:TLineage) (p1_from:(List Int)) : Option (List (Int × Bool)) :=
 ((recall_possible p0_l p1_from).bind fun y3 => ((recall_cases p0_l).bind fun y7 => (guardO (seqCases_ok p0_l) ((foldO (recall_sure_r1 p0_l p1_from) (seqCases p0_l) y3).bind fun u22 => match u22 with | .inl u48 => some u48 | .inr _ => none))))

def recall_Surely (p0_l:TLineage) (p1_from:(List Int)) : Option ((List Int) × Int) :=
 ((recall_asked p0_l p1_from).bind fun y2 => (if (y2 != 0) = true then some ([],y2) else ((recall_sure p0_l p1_from).bind fun y5 => ((recall_listed y5).bind fun y8 => some (y8,0)))))

def recall_Possibly (p0_l:TLineage) (p1_from:(List Int)) : Option ((List Int) × Int) :=
 ((recall_asked p0_l p1_from).bind fun y2 => (if (y2 != 0) = true then some ([],y2) else ((recall_possible p0_l p1_from).bind fun y5 => ((recall_listed y5).bind fun y8 => some (y8,0)))))

def recall_askedTo (p0_l:TLineage) (p1_from:(List Int)) (p2_to:Int) : Option Int :=
 ((recall_asked p0_l p1_from).bind fun y2 => (if (y2 != 0) = true then some y2 else ((recall_nodeOf p0_l p2_to).bind fun y5 => (if decide (y5 < 0) = true then some 5 else some 0))))

def recall_Share_r1 (p0_l:TLineage) (p1_from:(List Int)) (p2_to:Int) (s23:(Int × Int)) (x24:(List Int)) : Option ((Int × Int) ⊕ Unit) :=
 ((recall_inCase x24).bind fun y27 => ((recall_reach p0_l p1_from (fun x29 x30 => recall_fixed_has x24 x29 x30)).bind fun y31 => guardO (rngB p2_to = true) ((if mgetV false y31 p2_to = true then some (.inl (w64 (s23.1 + 1),w64 (s23.2 + 1))) else some (.inl (s23.1,w64 (s23.2 + 1)))))))
def recall_Share_l2 (s40:(Int × Int)) : Option ((Int × Int) ⊕ (Int × Int)) :=
 (if decide (0 < s40.2) = true then guardO (s40.2 ≠ 0) (some (.inl (s40.2,Int.tmod s40.1 s40.2))) else some (.inr (s40.1,s40.2)))
def recall_Share (p0_l:TLineage) (p1_from:(List Int)) (p2_to:Int) : Option (TRatio × Int) :=
 ((recall_askedTo p0_l p1_from p2_to).bind fun y5 => (if (y5 != 0) = true then some ((TRatio.mk 0 0),y5) else ((recall_cases p0_l).bind fun y10 => (guardO (seqCases_ok p0_l) ((foldO (recall_Share_r1 p0_l p1_from p2_to) (seqCases p0_l) (0,0)).bind fun u25 => match u25 with | .inl u38 => ((loopO (recall_Share_l2) (u38.1,u38.2)).bind fun u41 => guardO (u41.1 ≠ 0) (guardO (u41.1 ≠ 0) (some ((TRatio.mk (w64 (Int.tdiv u38.1 u41.1)) (w64 (Int.tdiv u38.2 u41.1))),0)))) | .inr _ => none)))))

def ref09_SameInts_l1 (p0_a:(List Int)) (p1_b:(List Int)) (s3:(Bool × Int)) : Option ((Bool × Int) ⊕ ((Bool × Int) ⊕ (Bool × Int))) :=
 (if decide (s3.2 < (p0_a.length:Int)) = true then guardO ((0:Int) ≤ s3.2 ∧ s3.2 < (p0_a.length:Int)) (guardO ((0:Int) ≤ s3.2 ∧ s3.2 < (p1_b.length:Int)) ((if ((rdL p0_a s3.2) != (rdL p1_b s3.2)) = true then some (.inr (.inl (false,s3.2))) else some (.inl (s3.1,w64 (s3.2 + 1)))))) else some (.inr (.inr (s3.1,s3.2))))
def ref09_SameInts (p0_a:(List Int)) (p1_b:(List Int)) : Option Bool :=
 (if ((p0_a.length:Int) != (p1_b.length:Int)) = true then some false else ((loopO (ref09_SameInts_l1 p0_a p1_b) (false,0)).bind fun u4 => match u4 with | (.inl u10) => some u10.1 | (.inr u11) => some true))

def recall_walls_l1 (p0_l:TLineage) (p1_set:(List (Int × Bool))) (s5:(Int × Int × (List (Int × Bool)))) : Option ((Int × Int × (List (Int × Bool))) ⊕ (Int × Int × (List (Int × Bool)))) :=
 (if decide (s5.2.1 < (p0_l.fNodes.length:Int)) = true then guardO ((0:Int) ≤ s5.2.1 ∧ s5.2.1 < (p0_l.fNodes.length:Int)) (((if (((rdL p0_l.fNodes s5.2.1).fLevel) == 9) = true then (guardO (rngB ((rdL p0_l.fNodes s5.2.1).fID) = true) (some (mgetV false p1_set ((rdL p0_l.fNodes s5.2.1).fID)))) else (some (false))).bind fun b11 => (if b11 = true then guardO (rngB ((rdL p0_l.fNodes s5.2.1).fID) = true ∧ List.length s5.2.2 < 1000000) (some (.inl (w64 (s5.1 + ((rdL p0_l.fNodes s5.2.1).fCost)),w64 (s5.2.1 + 1),(((rdL p0_l.fNodes s5.2.1).fID,true) :: s5.2.2)))) else some (.inl (s5.1,w64 (s5.2.1 + 1),s5.2.2))))) else some (.inr (s5.1,s5.2.1,s5.2.2)))
def recall_walls (p0_l:TLineage) (p1_set:(List (Int × Bool))) : Option ((List Int) × Int) :=
 ((loopO (recall_walls_l1 p0_l p1_set) (0,0,[])).bind fun u6 => ((recall_listed u6.2.2).bind fun y17 => some (y17,u6.1)))

def recall_Recall (p0_l:TLineage) (p1_from:(List Int)) (p2_surely:Bool) : Option ((List Int) × Int × Int) :=
 ((recall_asked p0_l p1_from).bind fun y2 => (if (y2 != 0) = true then some ([],0,y2) else ((recall_possible p0_l p1_from).bind fun y5 => (if p2_surely = true then ((recall_sure p0_l p1_from).bind fun y9 => ((recall_walls p0_l y9).bind fun y12 => some (y12.1,y12.2,0))) else ((recall_walls p0_l y5).bind fun y18 => some (y18.1,y18.2,0))))))

def slices_Clone_Hop_Hop (p0_s:(List THop)) : Option (List THop) :=
 guardO (0 + p0_s.length ≤ 1000000000) (some (([]:List THop) ++ p0_s))

def slices_Clone_Node_Node (p0_s:(List TNode)) : Option (List TNode) :=
 guardO (0 + p0_s.length ≤ 1000000000) (some (([]:List TNode) ++ p0_s))

def slices_Clone_Claim_Claim (p0_s:(List TClaim)) : Option (List TClaim) :=
 guardO (0 + p0_s.length ≤ 1000000000) (some (([]:List TClaim) ++ p0_s))

def recall_copied_l1 (y10:(List TClaim)) (s22:(Int × (List TClaim))) : Option ((Int × (List TClaim)) ⊕ (Int × (List TClaim))) :=
 (if decide (s22.1 < (y10.length:Int)) = true then guardO ((0:Int) ≤ s22.1 ∧ s22.1 < (y10.length:Int)) (((slices_Clone_Hop_Hop ((rdL s22.2 s22.1).fOptions)).bind fun y26 => guardO ((0:Int) ≤ s22.1 ∧ s22.1 < (y10.length:Int)) (some (.inl (w64 (s22.1 + 1),(s22.2.set (Int.toNat s22.1) (TClaim.mk ((rdL s22.2 s22.1).fID) y26))))))) else some (.inr (s22.1,s22.2)))
def recall_copied (p0_l:TLineage) : Option TLineage :=
 ((slices_Clone_Node_Node p0_l.fNodes).bind fun y4 => ((slices_Clone_Claim_Claim p0_l.fClaims).bind fun y10 => ((loopO (recall_copied_l1 y10) (0,y10)).bind fun u23 => some (TLineage.mk y4 u23.2))))

def recall_told (p0_l:TLineage) (p1_i:Int) (p2_o:(List THop)) : Option TLineage :=
 ((recall_copied p0_l).bind fun y3 => ((slices_Clone_Hop_Hop p2_o).bind fun y22 => guardO ((0:Int) ≤ p1_i ∧ p1_i < (y3.fClaims.length:Int)) (some (TLineage.mk y3.fNodes (y3.fClaims.set (Int.toNat p1_i) (TClaim.mk ((rdL y3.fClaims p1_i).fID) y22))))))

def recall_doubt (p0_l:TLineage) (p1_from:(List Int)) : Option Int :=
 ((recall_possible p0_l p1_from).bind fun y2 => ((recall_sure p0_l p1_from).bind fun y5 => ((recall_walls p0_l (diffV y5 y2)).bind fun y23 => some y23.2)))

def recall_least_calx_recall_asking_l1 (p0_l:(List Tasking)) (p1_less:Tasking → Tasking → Option Bool) (s5:(Int × Int × Int)) : Option ((Int × Int × Int) ⊕ (Int × Int × Int)) :=
 (if decide (s5.1 < (p0_l.length:Int)) = true then guardO ((0:Int) ≤ s5.1 ∧ s5.1 < (p0_l.length:Int)) (((if (s5.1 == 0) = true then (some (true)) else ((p1_less (Tasking.mk ((rdL p0_l s5.1).f_id) ((rdL p0_l s5.1).f_left)) (Tasking.mk s5.2.1 s5.2.2)).bind fun y14 => some (y14))).bind fun b11 => (if b11 = true then some (.inl (w64 (s5.1 + 1),(rdL p0_l s5.1).f_id,(rdL p0_l s5.1).f_left)) else some (.inl (w64 (s5.1 + 1),s5.2.1,s5.2.2))))) else some (.inr (s5.1,s5.2.1,s5.2.2)))
def recall_least_calx_recall_asking (p0_l:(List Tasking)) (p1_less:Tasking → Tasking → Option Bool) : Option (Tasking × Bool) :=
 ((loopO (recall_least_calx_recall_asking_l1 p0_l p1_less) (0,0,0)).bind fun u6 => some ((Tasking.mk u6.2.1 u6.2.2),decide (0 < (p0_l.length:Int))))

def recall_Ask_1 (p0_a:Tasking) (p1_b:Tasking) : Option Bool :=
 some ((decide (p0_a.f_left < p1_b.f_left)) || ((p0_a.f_left == p1_b.f_left) && (decide (p0_a.f_id < p1_b.f_id))))

def recall_Ask_l2 (p0:TLineage) (p1:(List Int)) (s7:(Int × (List Tasking))) (s16:(Int × Int)) : Option ((Int × Int) ⊕ (Int × Int)) :=
 (if decide (s16.1 < (((rdL p0.fClaims s7.1).fOptions.length : Nat) : Int)) = true then guardO ((0:Int) ≤ s16.1 ∧ s16.1 ≤ w64 (s16.1 + 1) ∧ w64 (s16.1 + 1) ≤ w64 (s16.1 + 1) ∧ w64 (s16.1 + 1) ≤ (((rdL p0.fClaims s7.1).fOptions.length : Nat) : Int)) (((recall_told p0 s7.1 ((((rdL p0.fClaims s7.1).fOptions).drop (Int.toNat s16.1)).take (Int.toNat (w64 (s16.1 + 1)) - Int.toNat s16.1))).bind fun y20 => ((recall_doubt y20 p1).bind fun y34 => some (.inl (w64 (s16.1 + 1),max s16.2 y34))))) else some (.inr (s16.1,s16.2)))
def recall_Ask_l1 (p0:TLineage) (p1:(List Int)) (s7:(Int × (List Tasking))) : Option ((Int × (List Tasking)) ⊕ (Int × (List Tasking))) :=
 (if decide (s7.1 < (p0.fClaims.length:Int)) = true then guardO ((0:Int) ≤ s7.1 ∧ s7.1 < (p0.fClaims.length:Int)) ((if decide ((((rdL p0.fClaims s7.1).fOptions.length : Nat) : Int) < 2) = true then some (.inl (w64 (s7.1 + 1),s7.2)) else ((loopO (recall_Ask_l2 p0 p1 s7) (0,0)).bind fun u17 => guardO (s7.2.length + 1 ≤ 1000000000) (some (.inl (w64 (s7.1 + 1),(s7.2 ++ [(Tasking.mk ((rdL p0.fClaims s7.1).fID) u17.2)]))))))) else some (.inr (s7.1,s7.2)))
def recall_Ask (p0:TLineage) (p1:(List Int)) : Option (Int × Int × Int) :=
 ((recall_asked p0 p1).bind fun y2 => (if (y2 != 0) = true then some (0,0,y2) else ((loopO (recall_Ask_l1 p0 p1) (0,([]:List Tasking))).bind fun u8 => ((recall_least_calx_recall_asking u8.2 (fun x54 x55 => recall_Ask_1 x54 x55)).bind fun y56 => (if (!y56.2) = true then some (0,0,5) else some (y56.1.f_id,y56.1.f_left,0))))))

def slices_Index_int_int_l1 (p0_s:(List Int)) (p1_v:Int) (s2:(Int × Int)) : Option ((Int × Int) ⊕ ((Int × Int) ⊕ (Int × Int))) :=
 (if decide (s2.2 < (p0_s.length:Int)) = true then guardO ((0:Int) ≤ s2.2 ∧ s2.2 < (p0_s.length:Int)) ((if (p1_v == (rdL p0_s s2.2)) = true then some (.inr (.inl (s2.2,s2.2))) else some (.inl (s2.1,w64 (s2.2 + 1))))) else some (.inr (.inr (s2.1,s2.2))))
def slices_Index_int_int (p0_s:(List Int)) (p1_v:Int) : Option Int :=
 ((loopO (slices_Index_int_int_l1 p0_s p1_v) (0,0)).bind fun u3 => match u3 with | (.inl u8) => some u8.1 | (.inr u9) => some (-1))

def slices_Contains_int_int (p0_s:(List Int)) (p1_v:Int) : Option Bool :=
 ((slices_Index_int_int p0_s p1_v).bind fun y1 => some (decide (0 ≤ y1)))

def recall_maybe_1 (p0_link:Int) (p1_h:Int) (cap0:(List Int)) (cap1:Int → Int → Option Bool) : Option Bool :=
 guardO ((0:Int) ≤ p0_link ∧ p0_link < (cap0.length:Int)) (((if ((rdL cap0 p0_link) == p1_h) = true then ((cap1 p0_link p1_h).bind fun y5 => some (y5)) else (some (false))).bind fun b3 => some b3))

def recall_maybe_r1 (p0_l:TLineage) (p1_from:(List Int)) (p2_to:Int) (p3_so:Int → Int → Option Bool) (s24:Bool) (x25:(List Int)) : Option (Bool ⊕ Bool) :=
 ((recall_reach p0_l p1_from (fun x28 x29 => recall_maybe_1 x28 x29 x25 p3_so)).bind fun y30 => guardO (rngB p2_to = true) ((if mgetV false y30 p2_to = true then some (.inr true) else some (.inl s24))))
def recall_maybe (p0_l:TLineage) (p1_from:(List Int)) (p2_to:Int) (p3_so:Int → Int → Option Bool) : Option Bool :=
 ((recall_reach p0_l p1_from p3_so).bind fun y6 => guardO (rngB p2_to = true) ((if (!(mgetV false y6 p2_to)) = true then some false else ((recall_cases p0_l).bind fun y11 => (guardO (seqCases_ok p0_l) ((foldO (recall_maybe_r1 p0_l p1_from p2_to p3_so) (seqCases p0_l) false).bind fun u26 => match u26 with | .inl u37 => some false | .inr u38 => some u38))))))

def recall_isCut_1 (p0_link:Int) (p1_h:Int) (cap0:(List (Int × Bool))) (cap1:TLineage) : Option Bool :=
 guardO ((0:Int) ≤ p0_link ∧ p0_link < (cap1.fClaims.length:Int)) (guardO (rngB ((rdL cap1.fClaims p0_link).fID) = true) (some (!(mgetV false cap0 ((rdL cap1.fClaims p0_link).fID)))))

def recall_isCut (p0_l:TLineage) (p1_from:(List Int)) (p2_to:Int) (p3_cut:(List (Int × Bool))) : Option Bool :=
 ((recall_maybe p0_l p1_from p2_to (fun x3 x4 => recall_isCut_1 x3 x4 p3_cut p0_l)).bind fun y5 => some (!y5))

def recall_Cut_l1 (p0_l:TLineage) (s11:(Int × (List (Int × Bool)))) : Option ((Int × (List (Int × Bool))) ⊕ (Int × (List (Int × Bool)))) :=
 (if decide (s11.1 < (p0_l.fClaims.length:Int)) = true then guardO ((0:Int) ≤ s11.1 ∧ s11.1 < (p0_l.fClaims.length:Int)) (guardO (rngB ((rdL p0_l.fClaims s11.1).fID) = true ∧ List.length s11.2 < 1000000) (some (.inl (w64 (s11.1 + 1),(((rdL p0_l.fClaims s11.1).fID,true) :: s11.2))))) else some (.inr (s11.1,s11.2)))
def recall_Cut_l2 (p0_l:TLineage) (p1_from:(List Int)) (p2_to:Int) (y18:(List Int)) (s26:(Int × (List (Int × Bool)))) : Option ((Int × (List (Int × Bool))) ⊕ (Int × (List (Int × Bool)))) :=
 (if decide (s26.1 < (y18.length:Int)) = true then guardO ((0:Int) ≤ s26.1 ∧ s26.1 < (y18.length:Int)) (guardO (rngB (rdL y18 s26.1) = true ∧ List.length s26.2 < 1000000) (((recall_isCut p0_l p1_from p2_to (((rdL y18 s26.1),false) :: s26.2)).bind fun y31 => (if (!y31) = true then guardO (rngB (rdL y18 s26.1) = true ∧ List.length (((rdL y18 s26.1),false) :: s26.2) < 1000000) (some (.inl (w64 (s26.1 + 1),(((rdL y18 s26.1),true) :: (((rdL y18 s26.1),false) :: s26.2))))) else some (.inl (w64 (s26.1 + 1),(((rdL y18 s26.1),false) :: s26.2))))))) else some (.inr (s26.1,s26.2)))
def recall_Cut (p0_l:TLineage) (p1_from:(List Int)) (p2_to:Int) : Option ((List Int) × Int) :=
 ((recall_askedTo p0_l p1_from p2_to).bind fun y2 => (if (y2 != 0) = true then some ([],y2) else ((slices_Contains_int_int p1_from p2_to).bind fun y5 => (if y5 = true then some ([],5) else ((loopO (recall_Cut_l1 p0_l) (0,[])).bind fun u12 => ((recall_listed u12.2).bind fun y18 => ((loopO (recall_Cut_l2 p0_l p1_from p2_to y18) (0,u12.2)).bind fun u27 => ((recall_listed u27.2).bind fun y36 => some (y36,0)))))))))

def calxlaw09_Example  : Option TLineage :=
 some (TLineage.mk [(TNode.mk 1 0 0),(TNode.mk 2 0 0),(TNode.mk 3 3 0),(TNode.mk 4 3 0),(TNode.mk 5 9 10),(TNode.mk 6 9 7)] [(TClaim.mk 11 [(THop.mk 1 3)]),(TClaim.mk 12 [(THop.mk 1 4),(THop.mk 2 4)]),(TClaim.mk 13 [(THop.mk 3 5)]),(TClaim.mk 14 [(THop.mk 4 5),(THop.mk 4 6)])])

def recall_anyOption (p0_link:Int) (p1_h:Int) : Option Bool :=
 some true

def recall_Hangs_1 (p0_link:Int) (p1_h:Int) (cap0:Int) : Option Bool :=
 some (p0_link != cap0)

def recall_Hangs_l1 (p0_l:TLineage) (p1_from:(List Int)) (p2_to:Int) (s12:(Int × (List Int))) : Option ((Int × (List Int)) ⊕ (Int × (List Int))) :=
 (if decide (s12.1 < (p0_l.fClaims.length:Int)) = true then guardO ((0:Int) ≤ s12.1 ∧ s12.1 < (p0_l.fClaims.length:Int)) (((recall_maybe p0_l p1_from p2_to (fun x18 x19 => recall_Hangs_1 x18 x19 s12.1)).bind fun y20 => (if (!y20) = true then guardO (s12.2.length + 1 ≤ 1000000000) (some (.inl (w64 (s12.1 + 1),(s12.2 ++ [(rdL p0_l.fClaims s12.1).fID])))) else some (.inl (w64 (s12.1 + 1),s12.2))))) else some (.inr (s12.1,s12.2)))
def recall_Hangs (p0_l:TLineage) (p1_from:(List Int)) (p2_to:Int) : Option ((List Int) × Int) :=
 ((recall_askedTo p0_l p1_from p2_to).bind fun y2 => (if (y2 != 0) = true then some ([],y2) else ((recall_maybe p0_l p1_from p2_to (fun x5 x6 => recall_anyOption x5 x6)).bind fun y7 => (if (!y7) = true then some ([],5) else ((loopO (recall_Hangs_l1 p0_l p1_from p2_to) (0,([]:List Int))).bind fun u13 => ((slices_Sort_int_int u13.2).bind fun y28 => some (y28,0)))))))

def recall_Gates_1 (p0_link:Int) (p1_h:Int) (cap0:TLineage) (cap1:TNode) : Option Bool :=
 guardO ((0:Int) ≤ p0_link ∧ p0_link < (cap0.fClaims.length:Int)) (guardO ((0:Int) ≤ p1_h ∧ p1_h < (((rdL cap0.fClaims p0_link).fOptions.length : Nat) : Int)) (some (((rdL ((rdL cap0.fClaims p0_link).fOptions) p1_h).fTo) != cap1.fID)))

def recall_Gates_l1 (p0_l:TLineage) (p1_from:(List Int)) (p2_to:Int) (s12:(Int × (List Int))) : Option ((Int × (List Int)) ⊕ (Int × (List Int))) :=
 (if decide (s12.1 < (p0_l.fNodes.length:Int)) = true then guardO ((0:Int) ≤ s12.1 ∧ s12.1 < (p0_l.fNodes.length:Int)) (((if (((rdL p0_l.fNodes s12.1).fID) == p2_to) = true then (some (true)) else ((slices_Contains_int_int p1_from ((rdL p0_l.fNodes s12.1).fID)).bind fun y30 => some (y30))).bind fun b18 => (if b18 = true then some (.inl (w64 (s12.1 + 1),s12.2)) else ((recall_maybe p0_l p1_from p2_to (fun x21 x22 => recall_Gates_1 x21 x22 p0_l (TNode.mk ((rdL p0_l.fNodes s12.1).fID) ((rdL p0_l.fNodes s12.1).fLevel) ((rdL p0_l.fNodes s12.1).fCost)))).bind fun y23 => (if (!y23) = true then guardO (s12.2.length + 1 ≤ 1000000000) (some (.inl (w64 (s12.1 + 1),(s12.2 ++ [(rdL p0_l.fNodes s12.1).fID])))) else some (.inl (w64 (s12.1 + 1),s12.2))))))) else some (.inr (s12.1,s12.2)))
def recall_Gates (p0_l:TLineage) (p1_from:(List Int)) (p2_to:Int) : Option ((List Int) × Int) :=
 ((recall_askedTo p0_l p1_from p2_to).bind fun y2 => (if (y2 != 0) = true then some ([],y2) else ((recall_maybe p0_l p1_from p2_to (fun x5 x6 => recall_anyOption x5 x6)).bind fun y7 => (if (!y7) = true then some ([],5) else ((loopO (recall_Gates_l1 p0_l p1_from p2_to) (0,([]:List Int))).bind fun u13 => ((slices_Sort_int_int u13.2).bind fun y33 => some (y33,0)))))))

def recall_level_l1 (p0_l:TLineage) (p1_n:Int) (s5:(Int × (List (Int × Bool)))) : Option ((Int × (List (Int × Bool))) ⊕ (Int × (List (Int × Bool)))) :=
 (if decide (s5.1 < (p0_l.fNodes.length:Int)) = true then guardO ((0:Int) ≤ s5.1 ∧ s5.1 < (p0_l.fNodes.length:Int)) ((if (((rdL p0_l.fNodes s5.1).fLevel) == p1_n) = true then guardO (rngB ((rdL p0_l.fNodes s5.1).fID) = true ∧ List.length s5.2 < 1000000) (some (.inl (w64 (s5.1 + 1),(((rdL p0_l.fNodes s5.1).fID,true) :: s5.2)))) else some (.inl (w64 (s5.1 + 1),s5.2)))) else some (.inr (s5.1,s5.2)))
def recall_level (p0_l:TLineage) (p1_n:Int) : Option (List (Int × Bool)) :=
 ((loopO (recall_level_l1 p0_l p1_n) (0,[])).bind fun u6 => some u6.2)

def recall_charges (p0_l:TLineage) : Option (List Int) :=
 ((recall_level p0_l 0).bind fun y2 => ((recall_listed y2).bind fun y5 => some y5))

def recall_Origins_l1 (p0_l:TLineage) (p1_to:Int) (y8:(List Int)) (s16:(Int × (List Int) × (List Int))) : Option ((Int × (List Int) × (List Int)) ⊕ (Int × (List Int) × (List Int))) :=
 (if decide (s16.1 < (y8.length:Int)) = true then guardO ((0:Int) ≤ s16.1 ∧ s16.1 < (y8.length:Int)) (((recall_sure p0_l [(rdL y8 s16.1)]).bind fun y21 => guardO (rngB p1_to = true) ((if mgetV false y21 p1_to = true then guardO (s16.2.1.length + 1 ≤ 1000000000) (((recall_possible p0_l [(rdL y8 s16.1)]).bind fun y31 => guardO (rngB p1_to = true) ((if mgetV false y31 p1_to = true then guardO (s16.2.2.length + 1 ≤ 1000000000) (some (.inl (w64 (s16.1 + 1),(s16.2.1 ++ [(rdL y8 s16.1)]),(s16.2.2 ++ [(rdL y8 s16.1)])))) else some (.inl (w64 (s16.1 + 1),(s16.2.1 ++ [(rdL y8 s16.1)]),s16.2.2)))))) else ((recall_possible p0_l [(rdL y8 s16.1)]).bind fun y41 => guardO (rngB p1_to = true) ((if mgetV false y41 p1_to = true then guardO (s16.2.2.length + 1 ≤ 1000000000) (some (.inl (w64 (s16.1 + 1),s16.2.1,(s16.2.2 ++ [(rdL y8 s16.1)])))) else some (.inl (w64 (s16.1 + 1),s16.2.1,s16.2.2))))))))) else some (.inr (s16.1,s16.2.1,s16.2.2)))
def recall_Origins (p0_l:TLineage) (p1_to:Int) : Option ((List Int) × (List Int) × Int) :=
 ((recall_Check p0_l).bind fun y2 => (if (y2 != 0) = true then some ([],[],y2) else ((recall_nodeOf p0_l p1_to).bind fun y5 => (if decide (y5 < 0) = true then some ([],[],5) else ((recall_charges p0_l).bind fun y8 => ((loopO (recall_Origins_l1 p0_l p1_to y8) (0,([]:List Int),([]:List Int))).bind fun u17 => some (u17.2.1,u17.2.2,0)))))))

def calxlaw09_head  : Option Bool :=
 ((calxlaw09_Example).bind fun y1 => ((recall_Cases y1).bind fun y20 => ((recall_Surely y1 [1]).bind fun y23 => ((recall_Possibly y1 [2]).bind fun y30 => ((recall_Hangs y1 [1] 6).bind fun y37 => ((recall_Gates y1 [1] 6).bind fun y44 => ((recall_Cut y1 [1] 5).bind fun y51 => ((recall_Share y1 [2] 5).bind fun y58 => ((recall_Recall y1 [1] false).bind fun y62 => ((recall_Ask y1 [1]).bind fun y69 => ((recall_Origins y1 5).bind fun y71 => (if ((((((((((y20.2 != 0) || (y23.2 != 0)) || (y30.2 != 0)) || (y37.2 != 0)) || (y44.2 != 0)) || (y51.2 != 0)) || (y58.2 != 0)) || (y62.2.2 != 0)) || (y69.2.2 != 0)) || (y71.2.2 != 0)) = true then some false else ((ref09_SameInts y23.1 [1,3,5]).bind fun y92 => ((if y92 = true then ((ref09_SameInts y30.1 [2,4,5,6]).bind fun y137 => some (y137)) else (some (false))).bind fun b95 => ((if b95 = true then ((ref09_SameInts y37.1 [12,14]).bind fun y134 => some (y134)) else (some (false))).bind fun b98 => ((if b98 = true then ((ref09_SameInts y44.1 [4]).bind fun y131 => some (y131)) else (some (false))).bind fun b101 => ((ref09_SameInts y51.1 [13,14]).bind fun y104 => ((if y104 = true then ((ref09_SameInts y62.1 [5,6]).bind fun y128 => some (y128)) else (some (false))).bind fun b107 => ((if b107 = true then ((ref09_SameInts y71.1 [1]).bind fun y125 => some (y125)) else (some (false))).bind fun b110 => ((if b110 = true then ((ref09_SameInts y71.2.1 [1,2]).bind fun y122 => some (y122)) else (some (false))).bind fun b113 => some ((((((b101 && b113) && (y20.1 == 4)) && ((y58.1.fNum == 1) && (y58.1.fDen == 4))) && (y62.2.1 == 17)) && (y69.1 == 12)) && (y69.2.1 == 7))))))))))))))))))))))

def calxlaw09_few_l1 (p0:TLineage) (s3:(Bool × Int × Int)) : Option ((Bool × Int × Int) ⊕ ((Bool × Int × Int) ⊕ (Bool × Int × Int))) :=
 (if decide (s3.2.2 < (p0.fClaims.length:Int)) = true then guardO ((0:Int) ≤ s3.2.2 ∧ s3.2.2 < (p0.fClaims.length:Int)) ((if decide (6 < (((rdL p0.fClaims s3.2.2).fOptions.length : Nat) : Int)) = true then some (.inr (.inl (false,s3.2.1,s3.2.2))) else some (.inl (s3.1,min (w64 (s3.2.1 * (max 1 (((rdL p0.fClaims s3.2.2).fOptions.length : Nat) : Int)))) 10000,w64 (s3.2.2 + 1))))) else some (.inr (.inr (s3.1,s3.2.1,s3.2.2))))
def calxlaw09_few (p0:TLineage) : Option Bool :=
 ((loopO (calxlaw09_few_l1 p0) (false,1,0)).bind fun u4 => match u4 with | (.inl u9) => some u9.1 | (.inr u10) => some ((((decide ((p0.fNodes.length:Int) ≤ 12)) || ((decide (60 < (p0.fNodes.length:Int))) && (decide ((p0.fNodes.length:Int) ≤ 80)))) && ((decide ((p0.fClaims.length:Int) ≤ 12)) || ((decide (80 < (p0.fClaims.length:Int))) && (decide ((p0.fClaims.length:Int) ≤ 100))))) && ((decide (u10.2.1 ≤ 64)) || (decide (4096 < u10.2.1)))))

def calxlaw09_among_l1 (p0_l:(List Int)) (p1_n:Int) (s2:(Bool × Int)) : Option ((Bool × Int) ⊕ ((Bool × Int) ⊕ (Bool × Int))) :=
 (if decide (s2.2 < (p0_l.length:Int)) = true then guardO ((0:Int) ≤ s2.2 ∧ s2.2 < (p0_l.length:Int)) ((if ((rdL p0_l s2.2) == p1_n) = true then some (.inr (.inl (true,s2.2))) else some (.inl (s2.1,w64 (s2.2 + 1))))) else some (.inr (.inr (s2.1,s2.2))))
def calxlaw09_among (p0_l:(List Int)) (p1_n:Int) : Option Bool :=
 ((loopO (calxlaw09_among_l1 p0_l p1_n) (false,0)).bind fun u3 => match u3 with | (.inl u8) => some u8.1 | (.inr u9) => some false)

def calxlaw09_all_l1 (p0_l:(List Int)) (p1_some:(List Int)) (s2:(Bool × Int)) : Option ((Bool × Int) ⊕ ((Bool × Int) ⊕ (Bool × Int))) :=
 (if decide (s2.2 < (p1_some.length:Int)) = true then guardO ((0:Int) ≤ s2.2 ∧ s2.2 < (p1_some.length:Int)) (((calxlaw09_among p0_l (rdL p1_some s2.2)).bind fun y6 => (if (!y6) = true then some (.inr (.inl (false,s2.2))) else some (.inl (s2.1,w64 (s2.2 + 1)))))) else some (.inr (.inr (s2.1,s2.2))))
def calxlaw09_all (p0_l:(List Int)) (p1_some:(List Int)) : Option Bool :=
 ((loopO (calxlaw09_all_l1 p0_l p1_some) (false,0)).bind fun u3 => match u3 with | (.inl u10) => some u10.1 | (.inr u11) => some true)

def recall_option (p0_l:TLineage) (p1_link:Int) (p2_h:Int) : Option (Int × Int) :=
 ((recall_Check p0_l).bind fun y2 => (if (y2 != 0) = true then some (0,y2) else ((recall_linkOf p0_l p1_link).bind fun y5 => (if decide (y5 < 0) = true then some (0,5) else guardO ((0:Int) ≤ y5 ∧ y5 < (p0_l.fClaims.length:Int)) (((recall_within p2_h 0 (w64 ((((rdL p0_l.fClaims y5).fOptions.length : Nat) : Int) - 1))).bind fun y9 => (if (!y9) = true then some (0,1) else some (y5,0))))))))

def recall_Told (p0_l:TLineage) (p1_link:Int) (p2_h:Int) : Option (TLineage × Int) :=
 ((recall_option p0_l p1_link p2_h).bind fun y3 => (if (y3.2 != 0) = true then some ((TLineage.mk [] []),y3.2) else guardO ((0:Int) ≤ y3.1 ∧ y3.1 < (p0_l.fClaims.length:Int)) (guardO ((0:Int) ≤ p2_h ∧ p2_h ≤ w64 (p2_h + 1) ∧ w64 (p2_h + 1) ≤ (((rdL p0_l.fClaims y3.1).fOptions.length : Nat) : Int)) (((recall_told p0_l y3.1 ((((rdL p0_l.fClaims y3.1).fOptions).drop (Int.toNat p2_h)).take (Int.toNat (w64 (p2_h + 1)) - Int.toNat p2_h))).bind fun y8 => some (y8,0))))))

def calxlaw09_RecallCosts_l2 (p0:TLineage) (p1:(List Int)) (y27:(Int × Int × Int)) (s32:(Bool × Int × Int)) (s36:(Bool × Int × Int)) : Option ((Bool × Int × Int) ⊕ ((Bool × Int × Int) ⊕ (Bool × Int × Int))) :=
 guardO ((0:Int) ≤ s32.2.2 ∧ s32.2.2 < (p0.fClaims.length:Int)) (((if (((rdL p0.fClaims s32.2.2).fID) == y27.1) = true then (guardO ((0:Int) ≤ s32.2.2 ∧ s32.2.2 < (p0.fClaims.length:Int)) (some (decide (s36.2.2 < (((rdL p0.fClaims s32.2.2).fOptions.length : Nat) : Int))))) else (some (false))).bind fun b40 => (if b40 = true then ((recall_Told p0 y27.1 s36.2.2).bind fun y43 => ((recall_Recall y43.1 p1 true).bind fun y62 => ((recall_Recall y43.1 p1 false).bind fun y68 => (if (((y43.2 != 0) || (y62.2.2 != 0)) || (y68.2.2 != 0)) = true then some (.inr (.inl (false,s36.2.1,s36.2.2))) else some (.inl (s36.1,max s36.2.1 (w64 (y68.2.1 - y62.2.1)),w64 (s36.2.2 + 1))))))) else some (.inr (.inr (s36.1,s36.2.1,s36.2.2))))))
def calxlaw09_RecallCosts_l1 (p0:TLineage) (p1:(List Int)) (y27:(Int × Int × Int)) (s32:(Bool × Int × Int)) : Option ((Bool × Int × Int) ⊕ ((Bool × Int × Int) ⊕ (Bool × Int × Int))) :=
 (if decide (s32.2.2 < (p0.fClaims.length:Int)) = true then ((loopO (calxlaw09_RecallCosts_l2 p0 p1 y27 s32) (s32.1,s32.2.1,0)).bind fun u37 => match u37 with | (.inl u79) => some (.inr (.inl (u79.1,u79.2.1,s32.2.2))) | (.inr u80) => some (.inl (u80.1,u80.2.1,w64 (s32.2.2 + 1)))) else some (.inr (.inr (s32.1,s32.2.1,s32.2.2))))
def calxlaw09_RecallCosts (p0:TLineage) (p1:(List Int)) : Option Bool :=
 ((calxlaw09_head).bind fun y2 => ((calxlaw09_few p0).bind fun y4 => (if ((!y4) || (decide (30 < (p1.length:Int)))) = true then some y2 else ((recall_Recall p0 p1 true).bind fun y8 => ((recall_Recall p0 p1 false).bind fun y14 => (if (y8.2.2 != y14.2.2) = true then some false else (if (y8.2.2 != 0) = true then some y2 else ((calxlaw09_all y14.1 y8.1).bind fun y22 => (if (((!y22) || (decide (y14.2.1 < y8.2.1))) || (decide (y8.2.1 < 0))) = true then some false else ((recall_Ask p0 p1).bind fun y27 => (if (y27.2.2 != 0) = true then some (y2 && (y27.2.2 == 5)) else ((loopO (calxlaw09_RecallCosts_l1 p0 p1 y27) (false,0,0)).bind fun u33 => match u33 with | (.inl u82) => some u82.1 | (.inr u83) => some (y2 && (u83.2.1 == y27.2.1))))))))))))))

end
end Go.Proofs.Ytbblpokfbmekfaa
