import Derived.Test.YtbblpokfbmekfaaP
/- The plain functions with loops of so many rounds at most: they compute. No program in sight. -/
set_option linter.unusedVariables false
set_option maxRecDepth 100000
set_option maxHeartbeats 4000000
namespace Go.Proofs.Ytbblpokfbmekfaa

def recall_within_c (fuel:Nat) (p0_n:Int) (p1_lo:Int) (p2_hi:Int) : Option Bool :=
 some ((decide (p1_lo ≤ p0_n)) && (decide (p0_n ≤ p2_hi)))
theorem recall_within_le (fuel:Nat) (p0_n:Int) (p1_lo:Int) (p2_hi:Int) : LeO (recall_within_c fuel p0_n p1_lo p2_hi) (recall_within p0_n p1_lo p2_hi):=by
 unfold recall_within_c recall_within
 repeat' first
  | with_reducible first | apply LeO.bind | apply LeO.guard | apply LeO.ite | apply LeO.loop | apply LeO.fold | exact LeO.refl _
  | (intro (u:Sum _ _); cases u <;> dsimp only)
  | intro _

def slices_IndexFunc_Node_Node_l1_c (fuel:Nat) (p0_s:(List TNode)) (p1_f:TNode → Option Bool) (s2:(Int × Int)) : Option ((Int × Int) ⊕ ((Int × Int) ⊕ (Int × Int))) :=
 (if decide (s2.2 < (p0_s.length:Int)) = true then guardO ((0:Int) ≤ s2.2 ∧ s2.2 < (p0_s.length:Int)) (((p1_f (TNode.mk ((rdL p0_s s2.2).fID) ((rdL p0_s s2.2).fLevel) ((rdL p0_s s2.2).fCost))).bind fun y6 => (if y6 = true then some (.inr (.inl (s2.2,s2.2))) else some (.inl (s2.1,w64 (s2.2 + 1)))))) else some (.inr (.inr (s2.1,s2.2))))
theorem slices_IndexFunc_Node_Node_l1_le (fuel:Nat) (p0_s:(List TNode)) (p1_f p1_f' : TNode → Option Bool) (hp1_f:∀ x,LeO (p1_f x) (p1_f' x)) (s2:(Int × Int)) : LeO (slices_IndexFunc_Node_Node_l1_c fuel p0_s p1_f s2) (slices_IndexFunc_Node_Node_l1 p0_s p1_f' s2):=by
 unfold slices_IndexFunc_Node_Node_l1_c slices_IndexFunc_Node_Node_l1
 repeat' first
  | with_reducible apply LeO.bind
  | with_reducible apply hp1_f
  | with_reducible apply LeO.guard
  | with_reducible apply LeO.ite
  | with_reducible apply LeO.loop
  | with_reducible apply LeO.fold
  | with_reducible exact LeO.refl _
  | (intro (u:Sum _ _); cases u <;> dsimp only)
  | intro _
def slices_IndexFunc_Node_Node_c (fuel:Nat) (p0_s:(List TNode)) (p1_f:TNode → Option Bool) : Option Int :=
 ((loopF fuel (slices_IndexFunc_Node_Node_l1_c fuel p0_s p1_f) (0,0)).bind fun u3 => match u3 with | (.inl u10) => some u10.1 | (.inr u11) => some (-1))
theorem slices_IndexFunc_Node_Node_le (fuel:Nat) (p0_s:(List TNode)) (p1_f p1_f' : TNode → Option Bool) (hp1_f:∀ x,LeO (p1_f x) (p1_f' x)) : LeO (slices_IndexFunc_Node_Node_c fuel p0_s p1_f) (slices_IndexFunc_Node_Node p0_s p1_f'):=by
 unfold slices_IndexFunc_Node_Node_c slices_IndexFunc_Node_Node
 repeat' first
  | with_reducible apply LeO.bind
  | with_reducible apply hp1_f
  | with_reducible apply slices_IndexFunc_Node_Node_l1_le
  | with_reducible apply LeO.guard
  | with_reducible apply LeO.ite
  | with_reducible apply LeO.loop
  | with_reducible apply LeO.fold
  | with_reducible exact LeO.refl _
  | (intro (u:Sum _ _); cases u <;> dsimp only)
  | intro _

def recall_nodeOf_1_c (fuel:Nat) (p0_n:TNode) (cap0:Int) : Option Bool :=
 some (p0_n.fID == cap0)
theorem recall_nodeOf_1_le (fuel:Nat) (p0_n:TNode) (cap0:Int) : LeO (recall_nodeOf_1_c fuel p0_n cap0) (recall_nodeOf_1 p0_n cap0):=by
 unfold recall_nodeOf_1_c recall_nodeOf_1
 repeat' first
  | with_reducible first | apply LeO.bind | apply LeO.guard | apply LeO.ite | apply LeO.loop | apply LeO.fold | exact LeO.refl _
  | (intro (u:Sum _ _); cases u <;> dsimp only)
  | intro _

def recall_nodeOf_c (fuel:Nat) (p0_l:TLineage) (p1_id:Int) : Option Int :=
 ((slices_IndexFunc_Node_Node_c fuel p0_l.fNodes (fun x3 => recall_nodeOf_1_c fuel x3 p1_id)).bind fun y4 => some y4)
theorem recall_nodeOf_le (fuel:Nat) (p0_l:TLineage) (p1_id:Int) : LeO (recall_nodeOf_c fuel p0_l p1_id) (recall_nodeOf p0_l p1_id):=by
 unfold recall_nodeOf_c recall_nodeOf
 repeat' first
  | with_reducible apply LeO.bind
  | with_reducible apply recall_nodeOf_1_le
  | with_reducible apply slices_IndexFunc_Node_Node_le
  | with_reducible apply LeO.guard
  | with_reducible apply LeO.ite
  | with_reducible apply LeO.loop
  | with_reducible apply LeO.fold
  | with_reducible exact LeO.refl _
  | (intro (u:Sum _ _); cases u <;> dsimp only)
  | intro _

def slices_Index_Hop_Hop_l1_c (fuel:Nat) (p0_s:(List THop)) (p1_v:THop) (s3:(Int × Int)) : Option ((Int × Int) ⊕ ((Int × Int) ⊕ (Int × Int))) :=
 (if decide (s3.2 < (p0_s.length:Int)) = true then guardO ((0:Int) ≤ s3.2 ∧ s3.2 < (p0_s.length:Int)) ((if ((p1_v.fFrom == (rdL p0_s s3.2).fFrom) && (p1_v.fTo == (rdL p0_s s3.2).fTo)) = true then some (.inr (.inl (s3.2,s3.2))) else some (.inl (s3.1,w64 (s3.2 + 1))))) else some (.inr (.inr (s3.1,s3.2))))
theorem slices_Index_Hop_Hop_l1_le (fuel:Nat) (p0_s:(List THop)) (p1_v:THop) (s3:(Int × Int)) : LeO (slices_Index_Hop_Hop_l1_c fuel p0_s p1_v s3) (slices_Index_Hop_Hop_l1 p0_s p1_v s3):=by
 unfold slices_Index_Hop_Hop_l1_c slices_Index_Hop_Hop_l1
 repeat' first
  | with_reducible first | apply LeO.bind | apply LeO.guard | apply LeO.ite | apply LeO.loop | apply LeO.fold | exact LeO.refl _
  | (intro (u:Sum _ _); cases u <;> dsimp only)
  | intro _
def slices_Index_Hop_Hop_c (fuel:Nat) (p0_s:(List THop)) (p1_v:THop) : Option Int :=
 ((loopF fuel (slices_Index_Hop_Hop_l1_c fuel p0_s p1_v) (0,0)).bind fun u4 => match u4 with | (.inl u9) => some u9.1 | (.inr u10) => some (-1))
theorem slices_Index_Hop_Hop_le (fuel:Nat) (p0_s:(List THop)) (p1_v:THop) : LeO (slices_Index_Hop_Hop_c fuel p0_s p1_v) (slices_Index_Hop_Hop p0_s p1_v):=by
 unfold slices_Index_Hop_Hop_c slices_Index_Hop_Hop
 repeat' first
  | with_reducible apply LeO.bind
  | with_reducible apply slices_Index_Hop_Hop_l1_le
  | with_reducible apply LeO.guard
  | with_reducible apply LeO.ite
  | with_reducible apply LeO.loop
  | with_reducible apply LeO.fold
  | with_reducible exact LeO.refl _
  | (intro (u:Sum _ _); cases u <;> dsimp only)
  | intro _

def slices_Contains_Hop_Hop_c (fuel:Nat) (p0_s:(List THop)) (p1_v:THop) : Option Bool :=
 ((slices_Index_Hop_Hop_c fuel p0_s p1_v).bind fun y2 => some (decide (0 ≤ y2)))
theorem slices_Contains_Hop_Hop_le (fuel:Nat) (p0_s:(List THop)) (p1_v:THop) : LeO (slices_Contains_Hop_Hop_c fuel p0_s p1_v) (slices_Contains_Hop_Hop p0_s p1_v):=by
 unfold slices_Contains_Hop_Hop_c slices_Contains_Hop_Hop
 repeat' first
  | with_reducible apply LeO.bind
  | with_reducible apply slices_Index_Hop_Hop_le
  | with_reducible apply LeO.guard
  | with_reducible apply LeO.ite
  | with_reducible apply LeO.loop
  | with_reducible apply LeO.fold
  | with_reducible exact LeO.refl _
  | (intro (u:Sum _ _); cases u <;> dsimp only)
  | intro _

def recall_options_l1_c (fuel:Nat) (p0_l:TLineage) (p1_o:(List THop)) (s6:(Bool × Int)) : Option ((Bool × Int) ⊕ ((Bool × Int) ⊕ (Bool × Int))) :=
 (if decide (s6.2 < (p1_o.length:Int)) = true then guardO ((0:Int) ≤ s6.2 ∧ s6.2 < (p1_o.length:Int)) (((recall_nodeOf_c fuel p0_l ((rdL p1_o s6.2).fFrom)).bind fun y11 => ((recall_nodeOf_c fuel p0_l ((rdL p1_o s6.2).fTo)).bind fun y13 => ((if ((decide (y11 < 0)) || (decide (y13 < 0))) = true then (some (true)) else (guardO ((0:Int) ≤ y11 ∧ y11 < (p0_l.fNodes.length:Int)) (guardO ((0:Int) ≤ y13 ∧ y13 < (p0_l.fNodes.length:Int)) (some (decide ((rdL p0_l.fNodes y13).fLevel ≤ (rdL p0_l.fNodes y11).fLevel)))))).bind fun b17 => ((if b17 = true then (some (true)) else (guardO ((0:Int) ≤ s6.2 ∧ s6.2 ≤ (p1_o.length:Int)) (((slices_Contains_Hop_Hop_c fuel (p1_o.take (Int.toNat s6.2)) (THop.mk ((rdL p1_o s6.2).fFrom) ((rdL p1_o s6.2).fTo))).bind fun y24 => some (y24))))).bind fun b20 => (if b20 = true then some (.inr (.inl (false,s6.2))) else some (.inl (s6.1,w64 (s6.2 + 1))))))))) else some (.inr (.inr (s6.1,s6.2))))
theorem recall_options_l1_le (fuel:Nat) (p0_l:TLineage) (p1_o:(List THop)) (s6:(Bool × Int)) : LeO (recall_options_l1_c fuel p0_l p1_o s6) (recall_options_l1 p0_l p1_o s6):=by
 unfold recall_options_l1_c recall_options_l1
 repeat' first
  | with_reducible apply LeO.bind
  | with_reducible apply recall_nodeOf_le
  | with_reducible apply slices_Contains_Hop_Hop_le
  | with_reducible apply LeO.guard
  | with_reducible apply LeO.ite
  | with_reducible apply LeO.loop
  | with_reducible apply LeO.fold
  | with_reducible exact LeO.refl _
  | (intro (u:Sum _ _); cases u <;> dsimp only)
  | intro _
def recall_options_c (fuel:Nat) (p0_l:TLineage) (p1_o:(List THop)) : Option Bool :=
 ((recall_within_c fuel (p1_o.length:Int) 1 4).bind fun y2 => (if (!y2) = true then some false else ((loopF fuel (recall_options_l1_c fuel p0_l p1_o) (false,0)).bind fun u7 => match u7 with | (.inl u29) => some u29.1 | (.inr u30) => some true)))
theorem recall_options_le (fuel:Nat) (p0_l:TLineage) (p1_o:(List THop)) : LeO (recall_options_c fuel p0_l p1_o) (recall_options p0_l p1_o):=by
 unfold recall_options_c recall_options
 repeat' first
  | with_reducible apply LeO.bind
  | with_reducible apply recall_options_l1_le
  | with_reducible apply recall_within_le
  | with_reducible apply LeO.guard
  | with_reducible apply LeO.ite
  | with_reducible apply LeO.loop
  | with_reducible apply LeO.fold
  | with_reducible exact LeO.refl _
  | (intro (u:Sum _ _); cases u <;> dsimp only)
  | intro _

def slices_IndexFunc_Claim_Claim_l1_c (fuel:Nat) (p0_s:(List TClaim)) (p1_f:TClaim → Option Bool) (s2:(Int × Int)) : Option ((Int × Int) ⊕ ((Int × Int) ⊕ (Int × Int))) :=
 (if decide (s2.2 < (p0_s.length:Int)) = true then guardO ((0:Int) ≤ s2.2 ∧ s2.2 < (p0_s.length:Int)) (((p1_f (TClaim.mk ((rdL p0_s s2.2).fID) ((rdL p0_s s2.2).fOptions))).bind fun y6 => (if y6 = true then some (.inr (.inl (s2.2,s2.2))) else some (.inl (s2.1,w64 (s2.2 + 1)))))) else some (.inr (.inr (s2.1,s2.2))))
theorem slices_IndexFunc_Claim_Claim_l1_le (fuel:Nat) (p0_s:(List TClaim)) (p1_f p1_f' : TClaim → Option Bool) (hp1_f:∀ x,LeO (p1_f x) (p1_f' x)) (s2:(Int × Int)) : LeO (slices_IndexFunc_Claim_Claim_l1_c fuel p0_s p1_f s2) (slices_IndexFunc_Claim_Claim_l1 p0_s p1_f' s2):=by
 unfold slices_IndexFunc_Claim_Claim_l1_c slices_IndexFunc_Claim_Claim_l1
 repeat' first
  | with_reducible apply LeO.bind
  | with_reducible apply hp1_f
  | with_reducible apply LeO.guard
  | with_reducible apply LeO.ite
  | with_reducible apply LeO.loop
  | with_reducible apply LeO.fold
  | with_reducible exact LeO.refl _
  | (intro (u:Sum _ _); cases u <;> dsimp only)
  | intro _
def slices_IndexFunc_Claim_Claim_c (fuel:Nat) (p0_s:(List TClaim)) (p1_f:TClaim → Option Bool) : Option Int :=
 ((loopF fuel (slices_IndexFunc_Claim_Claim_l1_c fuel p0_s p1_f) (0,0)).bind fun u3 => match u3 with | (.inl u10) => some u10.1 | (.inr u11) => some (-1))
theorem slices_IndexFunc_Claim_Claim_le (fuel:Nat) (p0_s:(List TClaim)) (p1_f p1_f' : TClaim → Option Bool) (hp1_f:∀ x,LeO (p1_f x) (p1_f' x)) : LeO (slices_IndexFunc_Claim_Claim_c fuel p0_s p1_f) (slices_IndexFunc_Claim_Claim p0_s p1_f'):=by
 unfold slices_IndexFunc_Claim_Claim_c slices_IndexFunc_Claim_Claim
 repeat' first
  | with_reducible apply LeO.bind
  | with_reducible apply hp1_f
  | with_reducible apply slices_IndexFunc_Claim_Claim_l1_le
  | with_reducible apply LeO.guard
  | with_reducible apply LeO.ite
  | with_reducible apply LeO.loop
  | with_reducible apply LeO.fold
  | with_reducible exact LeO.refl _
  | (intro (u:Sum _ _); cases u <;> dsimp only)
  | intro _

def recall_linkOf_1_c (fuel:Nat) (p0_x:TClaim) (cap0:Int) : Option Bool :=
 some (p0_x.fID == cap0)
theorem recall_linkOf_1_le (fuel:Nat) (p0_x:TClaim) (cap0:Int) : LeO (recall_linkOf_1_c fuel p0_x cap0) (recall_linkOf_1 p0_x cap0):=by
 unfold recall_linkOf_1_c recall_linkOf_1
 repeat' first
  | with_reducible first | apply LeO.bind | apply LeO.guard | apply LeO.ite | apply LeO.loop | apply LeO.fold | exact LeO.refl _
  | (intro (u:Sum _ _); cases u <;> dsimp only)
  | intro _

def recall_linkOf_c (fuel:Nat) (p0_l:TLineage) (p1_id:Int) : Option Int :=
 ((slices_IndexFunc_Claim_Claim_c fuel p0_l.fClaims (fun x3 => recall_linkOf_1_c fuel x3 p1_id)).bind fun y4 => some y4)
theorem recall_linkOf_le (fuel:Nat) (p0_l:TLineage) (p1_id:Int) : LeO (recall_linkOf_c fuel p0_l p1_id) (recall_linkOf p0_l p1_id):=by
 unfold recall_linkOf_c recall_linkOf
 repeat' first
  | with_reducible apply LeO.bind
  | with_reducible apply recall_linkOf_1_le
  | with_reducible apply slices_IndexFunc_Claim_Claim_le
  | with_reducible apply LeO.guard
  | with_reducible apply LeO.ite
  | with_reducible apply LeO.loop
  | with_reducible apply LeO.fold
  | with_reducible exact LeO.refl _
  | (intro (u:Sum _ _); cases u <;> dsimp only)
  | intro _

def recall_Check_l1_c (fuel:Nat) (p0:TLineage) (s5:(Int × Int)) : Option ((Int × Int) ⊕ ((Int × Int) ⊕ (Int × Int))) :=
 (if decide (s5.2 < (p0.fNodes.length:Int)) = true then guardO ((0:Int) ≤ s5.2 ∧ s5.2 < (p0.fNodes.length:Int)) (((recall_within_c fuel ((rdL p0.fNodes s5.2).fID) 1 1099511627776).bind fun y10 => ((if (!y10) = true then (some (true)) else ((recall_within_c fuel ((rdL p0.fNodes s5.2).fLevel) 0 9).bind fun y24 => some ((!y24)))).bind fun b13 => ((if b13 = true then (some (true)) else ((recall_within_c fuel ((rdL p0.fNodes s5.2).fCost) 0 1073741824).bind fun y22 => some ((!y22)))).bind fun b16 => (if b16 = true then some (.inr (.inl (1,s5.2))) else ((recall_nodeOf_c fuel p0 ((rdL p0.fNodes s5.2).fID)).bind fun y19 => (if decide (y19 < s5.2) = true then some (.inr (.inl (6,s5.2))) else some (.inl (s5.1,w64 (s5.2 + 1)))))))))) else some (.inr (.inr (s5.1,s5.2))))
theorem recall_Check_l1_le (fuel:Nat) (p0:TLineage) (s5:(Int × Int)) : LeO (recall_Check_l1_c fuel p0 s5) (recall_Check_l1 p0 s5):=by
 unfold recall_Check_l1_c recall_Check_l1
 repeat' first
  | with_reducible apply LeO.bind
  | with_reducible apply recall_nodeOf_le
  | with_reducible apply recall_within_le
  | with_reducible apply LeO.guard
  | with_reducible apply LeO.ite
  | with_reducible apply LeO.loop
  | with_reducible apply LeO.fold
  | with_reducible exact LeO.refl _
  | (intro (u:Sum _ _); cases u <;> dsimp only)
  | intro _
def recall_Check_l2_c (fuel:Nat) (p0:TLineage) (s30:(Int × Int × Int)) : Option ((Int × Int × Int) ⊕ ((Int × Int × Int) ⊕ (Int × Int × Int))) :=
 (if decide (s30.2.2 < (p0.fClaims.length:Int)) = true then guardO ((0:Int) ≤ s30.2.2 ∧ s30.2.2 < (p0.fClaims.length:Int)) (((recall_within_c fuel ((rdL p0.fClaims s30.2.2).fID) 1 1099511627776).bind fun y35 => ((if (!y35) = true then (some (true)) else ((recall_options_c fuel p0 ((rdL p0.fClaims s30.2.2).fOptions)).bind fun y44 => some ((!y44)))).bind fun b38 => (if b38 = true then some (.inr (.inl (1,s30.2.1,s30.2.2))) else ((recall_linkOf_c fuel p0 ((rdL p0.fClaims s30.2.2).fID)).bind fun y41 => (if decide (y41 < s30.2.2) = true then some (.inr (.inl (6,s30.2.1,s30.2.2))) else some (.inl (s30.1,min (w64 (s30.2.1 * (((rdL p0.fClaims s30.2.2).fOptions.length : Nat) : Int))) 4097,w64 (s30.2.2 + 1))))))))) else some (.inr (.inr (s30.1,s30.2.1,s30.2.2))))
theorem recall_Check_l2_le (fuel:Nat) (p0:TLineage) (s30:(Int × Int × Int)) : LeO (recall_Check_l2_c fuel p0 s30) (recall_Check_l2 p0 s30):=by
 unfold recall_Check_l2_c recall_Check_l2
 repeat' first
  | with_reducible apply LeO.bind
  | with_reducible apply recall_linkOf_le
  | with_reducible apply recall_options_le
  | with_reducible apply recall_within_le
  | with_reducible apply LeO.guard
  | with_reducible apply LeO.ite
  | with_reducible apply LeO.loop
  | with_reducible apply LeO.fold
  | with_reducible exact LeO.refl _
  | (intro (u:Sum _ _); cases u <;> dsimp only)
  | intro _
def recall_Check_c (fuel:Nat) (p0:TLineage) : Option Int :=
 (if ((decide (60 < (p0.fNodes.length:Int))) || (decide (80 < (p0.fClaims.length:Int)))) = true then some 2 else ((loopF fuel (recall_Check_l1_c fuel p0) (0,0)).bind fun u6 => match u6 with | (.inl u27) => some u27.1 | (.inr u28) => ((loopF fuel (recall_Check_l2_c fuel p0) (u28.1,1,0)).bind fun u31 => match u31 with | (.inl u47) => some u47.1 | (.inr u48) => (if decide (4096 < u48.2.1) = true then some 2 else some 0))))
theorem recall_Check_le (fuel:Nat) (p0:TLineage) : LeO (recall_Check_c fuel p0) (recall_Check p0):=by
 unfold recall_Check_c recall_Check
 repeat' first
  | with_reducible apply LeO.bind
  | with_reducible apply recall_Check_l1_le
  | with_reducible apply recall_Check_l2_le
  | with_reducible apply LeO.guard
  | with_reducible apply LeO.ite
  | with_reducible apply LeO.loop
  | with_reducible apply LeO.fold
  | with_reducible exact LeO.refl _
  | (intro (u:Sum _ _); cases u <;> dsimp only)
  | intro _

def recall_cases_c (fuel:Nat) (p0_l:TLineage) : Option Unit :=
 some ()
theorem recall_cases_le (fuel:Nat) (p0_l:TLineage) : LeO (recall_cases_c fuel p0_l) (recall_cases p0_l):=by
 unfold recall_cases_c recall_cases
 repeat' first
  | with_reducible first | apply LeO.bind | apply LeO.guard | apply LeO.ite | apply LeO.loop | apply LeO.fold | exact LeO.refl _
  | (intro (u:Sum _ _); cases u <;> dsimp only)
  | intro _

def recall_Cases_r1_c (fuel:Nat) (s19:Int) (x20:(List Int)) : Option (Int ⊕ Unit) :=
 some (.inl (w64 (s19 + 1)))
theorem recall_Cases_r1_le (fuel:Nat) (s19:Int) (x20:(List Int)) : LeO (recall_Cases_r1_c fuel s19 x20) (recall_Cases_r1 s19 x20):=by
 unfold recall_Cases_r1_c recall_Cases_r1
 repeat' first
  | with_reducible first | apply LeO.bind | apply LeO.guard | apply LeO.ite | apply LeO.loop | apply LeO.fold | exact LeO.refl _
  | (intro (u:Sum _ _); cases u <;> dsimp only)
  | intro _
def recall_Cases_c (fuel:Nat) (p0_l:TLineage) : Option (Int × Int) :=
 ((recall_Check_c fuel p0_l).bind fun y2 => (if (y2 != 0) = true then some (0,y2) else ((recall_cases_c fuel p0_l).bind fun y6 => (guardO (seqCases_ok p0_l) ((foldO (recall_Cases_r1_c fuel) (seqCases p0_l) 0).bind fun u21 => match u21 with | .inl u24 => some (u24,0) | .inr _ => none)))))
theorem recall_Cases_le (fuel:Nat) (p0_l:TLineage) : LeO (recall_Cases_c fuel p0_l) (recall_Cases p0_l):=by
 unfold recall_Cases_c recall_Cases
 repeat' first
  | with_reducible apply LeO.bind
  | with_reducible apply recall_Cases_r1_le
  | with_reducible apply recall_Check_le
  | with_reducible apply recall_cases_le
  | with_reducible apply LeO.guard
  | with_reducible apply LeO.ite
  | with_reducible apply LeO.loop
  | with_reducible apply LeO.fold
  | with_reducible exact LeO.refl _
  | (intro (u:Sum _ _); cases u <;> dsimp only)
  | intro _

def recall_increasing_int_l1_c (fuel:Nat) (p0_l:(List Int)) (p1_id:Int → Option Int) (p2_so:Int → Option Bool) (s2:(Bool × Int)) : Option ((Bool × Int) ⊕ ((Bool × Int) ⊕ (Bool × Int))) :=
 (if decide (s2.2 < (p0_l.length:Int)) = true then guardO ((0:Int) ≤ s2.2 ∧ s2.2 < (p0_l.length:Int)) (((p1_id (rdL p0_l s2.2)).bind fun y6 => ((p2_so y6).bind fun y8 => ((if (!y8) = true then (some (true)) else ((if decide (0 < s2.2) = true then ((p1_id (rdL p0_l s2.2)).bind fun y17 => guardO ((0:Int) ≤ w64 (s2.2 - 1) ∧ w64 (s2.2 - 1) < (p0_l.length:Int)) (((p1_id (rdL p0_l (w64 (s2.2 - 1)))).bind fun y20 => some (decide (y17 ≤ y20))))) else (some (false))).bind fun b15 => some (b15))).bind fun b11 => (if b11 = true then some (.inr (.inl (false,s2.2))) else some (.inl (s2.1,w64 (s2.2 + 1)))))))) else some (.inr (.inr (s2.1,s2.2))))
theorem recall_increasing_int_l1_le (fuel:Nat) (p0_l:(List Int)) (p1_id p1_id' : Int → Option Int) (hp1_id:∀ x,LeO (p1_id x) (p1_id' x)) (p2_so p2_so' : Int → Option Bool) (hp2_so:∀ x,LeO (p2_so x) (p2_so' x)) (s2:(Bool × Int)) : LeO (recall_increasing_int_l1_c fuel p0_l p1_id p2_so s2) (recall_increasing_int_l1 p0_l p1_id' p2_so' s2):=by
 unfold recall_increasing_int_l1_c recall_increasing_int_l1
 repeat' first
  | with_reducible apply LeO.bind
  | with_reducible apply hp1_id
  | with_reducible apply hp2_so
  | with_reducible apply LeO.guard
  | with_reducible apply LeO.ite
  | with_reducible apply LeO.loop
  | with_reducible apply LeO.fold
  | with_reducible exact LeO.refl _
  | (intro (u:Sum _ _); cases u <;> dsimp only)
  | intro _
def recall_increasing_int_c (fuel:Nat) (p0_l:(List Int)) (p1_id:Int → Option Int) (p2_so:Int → Option Bool) : Option Bool :=
 ((loopF fuel (recall_increasing_int_l1_c fuel p0_l p1_id p2_so) (false,0)).bind fun u3 => match u3 with | (.inl u23) => some u23.1 | (.inr u24) => some true)
theorem recall_increasing_int_le (fuel:Nat) (p0_l:(List Int)) (p1_id p1_id' : Int → Option Int) (hp1_id:∀ x,LeO (p1_id x) (p1_id' x)) (p2_so p2_so' : Int → Option Bool) (hp2_so:∀ x,LeO (p2_so x) (p2_so' x)) : LeO (recall_increasing_int_c fuel p0_l p1_id p2_so) (recall_increasing_int p0_l p1_id' p2_so'):=by
 unfold recall_increasing_int_c recall_increasing_int
 repeat' first
  | with_reducible apply LeO.bind
  | with_reducible apply hp1_id
  | with_reducible apply hp2_so
  | with_reducible apply recall_increasing_int_l1_le
  | with_reducible apply LeO.guard
  | with_reducible apply LeO.ite
  | with_reducible apply LeO.loop
  | with_reducible apply LeO.fold
  | with_reducible exact LeO.refl _
  | (intro (u:Sum _ _); cases u <;> dsimp only)
  | intro _

def recall_own_c (fuel:Nat) (p0_n:Int) : Option Int :=
 some p0_n
theorem recall_own_le (fuel:Nat) (p0_n:Int) : LeO (recall_own_c fuel p0_n) (recall_own p0_n):=by
 unfold recall_own_c recall_own
 repeat' first
  | with_reducible first | apply LeO.bind | apply LeO.guard | apply LeO.ite | apply LeO.loop | apply LeO.fold | exact LeO.refl _
  | (intro (u:Sum _ _); cases u <;> dsimp only)
  | intro _

def recall_isFrom_1_c (fuel:Nat) (p0_id:Int) (cap0:TLineage) : Option Bool :=
 ((recall_nodeOf_c fuel cap0 p0_id).bind fun y1 => some (decide (0 ≤ y1)))
theorem recall_isFrom_1_le (fuel:Nat) (p0_id:Int) (cap0:TLineage) : LeO (recall_isFrom_1_c fuel p0_id cap0) (recall_isFrom_1 p0_id cap0):=by
 unfold recall_isFrom_1_c recall_isFrom_1
 repeat' first
  | with_reducible apply LeO.bind
  | with_reducible apply recall_nodeOf_le
  | with_reducible apply LeO.guard
  | with_reducible apply LeO.ite
  | with_reducible apply LeO.loop
  | with_reducible apply LeO.fold
  | with_reducible exact LeO.refl _
  | (intro (u:Sum _ _); cases u <;> dsimp only)
  | intro _

def recall_isFrom_c (fuel:Nat) (p0_l:TLineage) (p1_from:(List Int)) : Option Bool :=
 ((if decide (0 < (p1_from.length:Int)) = true then ((recall_increasing_int_c fuel p1_from (fun x5 => recall_own_c fuel x5) (fun x6 => recall_isFrom_1_c fuel x6 p0_l)).bind fun y7 => some (y7)) else (some (false))).bind fun b3 => some b3)
theorem recall_isFrom_le (fuel:Nat) (p0_l:TLineage) (p1_from:(List Int)) : LeO (recall_isFrom_c fuel p0_l p1_from) (recall_isFrom p0_l p1_from):=by
 unfold recall_isFrom_c recall_isFrom
 repeat' first
  | with_reducible apply LeO.bind
  | with_reducible apply recall_increasing_int_le
  | with_reducible apply recall_isFrom_1_le
  | with_reducible apply recall_own_le
  | with_reducible apply LeO.guard
  | with_reducible apply LeO.ite
  | with_reducible apply LeO.loop
  | with_reducible apply LeO.fold
  | with_reducible exact LeO.refl _
  | (intro (u:Sum _ _); cases u <;> dsimp only)
  | intro _

def recall_asked_c (fuel:Nat) (p0_l:TLineage) (p1_from:(List Int)) : Option Int :=
 ((recall_Check_c fuel p0_l).bind fun y2 => (if (y2 != 0) = true then some y2 else ((recall_isFrom_c fuel p0_l p1_from).bind fun y5 => (if (!y5) = true then some 1 else some 0))))
theorem recall_asked_le (fuel:Nat) (p0_l:TLineage) (p1_from:(List Int)) : LeO (recall_asked_c fuel p0_l p1_from) (recall_asked p0_l p1_from):=by
 unfold recall_asked_c recall_asked
 repeat' first
  | with_reducible apply LeO.bind
  | with_reducible apply recall_Check_le
  | with_reducible apply recall_isFrom_le
  | with_reducible apply LeO.guard
  | with_reducible apply LeO.ite
  | with_reducible apply LeO.loop
  | with_reducible apply LeO.fold
  | with_reducible exact LeO.refl _
  | (intro (u:Sum _ _); cases u <;> dsimp only)
  | intro _

def cmp_isNaN_int_c (fuel:Nat) (p0_x:Int) : Option Bool :=
 some (p0_x != p0_x)
theorem cmp_isNaN_int_le (fuel:Nat) (p0_x:Int) : LeO (cmp_isNaN_int_c fuel p0_x) (cmp_isNaN_int p0_x):=by
 unfold cmp_isNaN_int_c cmp_isNaN_int
 repeat' first
  | with_reducible first | apply LeO.bind | apply LeO.guard | apply LeO.ite | apply LeO.loop | apply LeO.fold | exact LeO.refl _
  | (intro (u:Sum _ _); cases u <;> dsimp only)
  | intro _

def slices_insertionSortCmpFunc_int_l2_c (fuel:Nat) (p0_data:(List Int)) (p1_a:Int) (p3_cmp:Int → Int → Option Int) (s8:(Int × (List Int))) : Option ((Int × (List Int)) ⊕ (Int × (List Int))) :=
 ((if decide (p1_a < s8.1) = true then (guardO ((0:Int) ≤ s8.1 ∧ s8.1 < (p0_data.length:Int)) (guardO ((0:Int) ≤ w64 (s8.1 - 1) ∧ w64 (s8.1 - 1) < (p0_data.length:Int)) (((p3_cmp (rdL s8.2 s8.1) (rdL s8.2 (w64 (s8.1 - 1)))).bind fun y21 => some (decide (y21 < 0)))))) else (some (false))).bind fun b11 => (if b11 = true then guardO ((0:Int) ≤ w64 (s8.1 - 1) ∧ w64 (s8.1 - 1) < (p0_data.length:Int)) (guardO ((0:Int) ≤ s8.1 ∧ s8.1 < (p0_data.length:Int)) (guardO ((0:Int) ≤ s8.1 ∧ s8.1 < (p0_data.length:Int)) (guardO ((0:Int) ≤ w64 (s8.1 - 1) ∧ w64 (s8.1 - 1) < (p0_data.length:Int)) (some (.inl (w64 (s8.1 - 1),((s8.2.set (Int.toNat s8.1) (rdL s8.2 (w64 (s8.1 - 1)))).set (Int.toNat (w64 (s8.1 - 1))) (rdL s8.2 s8.1)))))))) else some (.inr (s8.1,s8.2))))
theorem slices_insertionSortCmpFunc_int_l2_le (fuel:Nat) (p0_data:(List Int)) (p1_a:Int) (p3_cmp p3_cmp' : Int → Int → Option Int) (hp3_cmp:∀ x0 x1,LeO (p3_cmp x0 x1) (p3_cmp' x0 x1)) (s8:(Int × (List Int))) : LeO (slices_insertionSortCmpFunc_int_l2_c fuel p0_data p1_a p3_cmp s8) (slices_insertionSortCmpFunc_int_l2 p0_data p1_a p3_cmp' s8):=by
 unfold slices_insertionSortCmpFunc_int_l2_c slices_insertionSortCmpFunc_int_l2
 repeat' first
  | with_reducible apply LeO.bind
  | with_reducible apply hp3_cmp
  | with_reducible apply LeO.guard
  | with_reducible apply LeO.ite
  | with_reducible apply LeO.loop
  | with_reducible apply LeO.fold
  | with_reducible exact LeO.refl _
  | (intro (u:Sum _ _); cases u <;> dsimp only)
  | intro _
def slices_insertionSortCmpFunc_int_l1_c (fuel:Nat) (p0_data:(List Int)) (p1_a:Int) (p2_b:Int) (p3_cmp:Int → Int → Option Int) (s3:(Int × (List Int))) : Option ((Int × (List Int)) ⊕ (Int × (List Int))) :=
 (if decide (s3.1 < p2_b) = true then ((loopF fuel (slices_insertionSortCmpFunc_int_l2_c fuel p0_data p1_a p3_cmp) (s3.1,s3.2)).bind fun u9 => some (.inl (w64 (s3.1 + 1),u9.2))) else some (.inr (s3.1,s3.2)))
theorem slices_insertionSortCmpFunc_int_l1_le (fuel:Nat) (p0_data:(List Int)) (p1_a:Int) (p2_b:Int) (p3_cmp p3_cmp' : Int → Int → Option Int) (hp3_cmp:∀ x0 x1,LeO (p3_cmp x0 x1) (p3_cmp' x0 x1)) (s3:(Int × (List Int))) : LeO (slices_insertionSortCmpFunc_int_l1_c fuel p0_data p1_a p2_b p3_cmp s3) (slices_insertionSortCmpFunc_int_l1 p0_data p1_a p2_b p3_cmp' s3):=by
 unfold slices_insertionSortCmpFunc_int_l1_c slices_insertionSortCmpFunc_int_l1
 repeat' first
  | with_reducible apply LeO.bind
  | with_reducible apply hp3_cmp
  | with_reducible apply slices_insertionSortCmpFunc_int_l2_le
  | with_reducible apply LeO.guard
  | with_reducible apply LeO.ite
  | with_reducible apply LeO.loop
  | with_reducible apply LeO.fold
  | with_reducible exact LeO.refl _
  | (intro (u:Sum _ _); cases u <;> dsimp only)
  | intro _
def slices_insertionSortCmpFunc_int_c (fuel:Nat) (p0_data:(List Int)) (p1_a:Int) (p2_b:Int) (p3_cmp:Int → Int → Option Int) : Option (List Int) :=
 ((loopF fuel (slices_insertionSortCmpFunc_int_l1_c fuel p0_data p1_a p2_b p3_cmp) (w64 (p1_a + 1),p0_data)).bind fun u4 => some u4.2)
theorem slices_insertionSortCmpFunc_int_le (fuel:Nat) (p0_data:(List Int)) (p1_a:Int) (p2_b:Int) (p3_cmp p3_cmp' : Int → Int → Option Int) (hp3_cmp:∀ x0 x1,LeO (p3_cmp x0 x1) (p3_cmp' x0 x1)) : LeO (slices_insertionSortCmpFunc_int_c fuel p0_data p1_a p2_b p3_cmp) (slices_insertionSortCmpFunc_int p0_data p1_a p2_b p3_cmp'):=by
 unfold slices_insertionSortCmpFunc_int_c slices_insertionSortCmpFunc_int
 repeat' first
  | with_reducible apply LeO.bind
  | with_reducible apply hp3_cmp
  | with_reducible apply slices_insertionSortCmpFunc_int_l1_le
  | with_reducible apply LeO.guard
  | with_reducible apply LeO.ite
  | with_reducible apply LeO.loop
  | with_reducible apply LeO.fold
  | with_reducible exact LeO.refl _
  | (intro (u:Sum _ _); cases u <;> dsimp only)
  | intro _

def slices_stableCmpFunc_int_l1_c (fuel:Nat) (p1_n:Int) (s2:(Int × Int)) : Option ((Int × Int) ⊕ (Int × Int)) :=
 guardO (decide (s2.2 ≤ p1_n) = false) (some (.inr (s2.1,s2.2)))
theorem slices_stableCmpFunc_int_l1_le (fuel:Nat) (p1_n:Int) (s2:(Int × Int)) : LeO (slices_stableCmpFunc_int_l1_c fuel p1_n s2) (slices_stableCmpFunc_int_l1 p1_n s2):=by
 unfold slices_stableCmpFunc_int_l1_c slices_stableCmpFunc_int_l1
 repeat' first
  | with_reducible first | apply LeO.bind | apply LeO.guard | apply LeO.ite | apply LeO.loop | apply LeO.fold | exact LeO.refl _
  | (intro (u:Sum _ _); cases u <;> dsimp only)
  | intro _
def slices_stableCmpFunc_int_l2_c (fuel:Nat) (p1_n:Int) (s10:(Int × Int × Int)) : Option ((Int × Int × Int) ⊕ (Int × Int × Int)) :=
 guardO (decide (s10.1 < p1_n) = false) (some (.inr (s10.1,s10.2.1,s10.2.2)))
theorem slices_stableCmpFunc_int_l2_le (fuel:Nat) (p1_n:Int) (s10:(Int × Int × Int)) : LeO (slices_stableCmpFunc_int_l2_c fuel p1_n s10) (slices_stableCmpFunc_int_l2 p1_n s10):=by
 unfold slices_stableCmpFunc_int_l2_c slices_stableCmpFunc_int_l2
 repeat' first
  | with_reducible first | apply LeO.bind | apply LeO.guard | apply LeO.ite | apply LeO.loop | apply LeO.fold | exact LeO.refl _
  | (intro (u:Sum _ _); cases u <;> dsimp only)
  | intro _
def slices_stableCmpFunc_int_c (fuel:Nat) (p0_data:(List Int)) (p1_n:Int) (p2_cmp:Int → Int → Option Int) : Option (List Int) :=
 ((loopF fuel (slices_stableCmpFunc_int_l1_c fuel p1_n) (0,20)).bind fun u3 => ((slices_insertionSortCmpFunc_int_c fuel p0_data u3.1 p1_n p2_cmp).bind fun y6 => ((loopF fuel (slices_stableCmpFunc_int_l2_c fuel p1_n) (20,u3.1,u3.2)).bind fun u11 => some y6)))
theorem slices_stableCmpFunc_int_le (fuel:Nat) (p0_data:(List Int)) (p1_n:Int) (p2_cmp p2_cmp' : Int → Int → Option Int) (hp2_cmp:∀ x0 x1,LeO (p2_cmp x0 x1) (p2_cmp' x0 x1)) : LeO (slices_stableCmpFunc_int_c fuel p0_data p1_n p2_cmp) (slices_stableCmpFunc_int p0_data p1_n p2_cmp'):=by
 unfold slices_stableCmpFunc_int_c slices_stableCmpFunc_int
 repeat' first
  | with_reducible apply LeO.bind
  | with_reducible apply hp2_cmp
  | with_reducible apply slices_insertionSortCmpFunc_int_le
  | with_reducible apply slices_stableCmpFunc_int_l1_le
  | with_reducible apply slices_stableCmpFunc_int_l2_le
  | with_reducible apply LeO.guard
  | with_reducible apply LeO.ite
  | with_reducible apply LeO.loop
  | with_reducible apply LeO.fold
  | with_reducible exact LeO.refl _
  | (intro (u:Sum _ _); cases u <;> dsimp only)
  | intro _

def slices_SortStableFunc_int_int_c (fuel:Nat) (p0_x:(List Int)) (p1_cmp:Int → Int → Option Int) : Option (List Int) :=
 ((slices_stableCmpFunc_int_c fuel p0_x (p0_x.length:Int) p1_cmp).bind fun y1 => some y1)
theorem slices_SortStableFunc_int_int_le (fuel:Nat) (p0_x:(List Int)) (p1_cmp p1_cmp' : Int → Int → Option Int) (hp1_cmp:∀ x0 x1,LeO (p1_cmp x0 x1) (p1_cmp' x0 x1)) : LeO (slices_SortStableFunc_int_int_c fuel p0_x p1_cmp) (slices_SortStableFunc_int_int p0_x p1_cmp'):=by
 unfold slices_SortStableFunc_int_int_c slices_SortStableFunc_int_int
 repeat' first
  | with_reducible apply LeO.bind
  | with_reducible apply hp1_cmp
  | with_reducible apply slices_stableCmpFunc_int_le
  | with_reducible apply LeO.guard
  | with_reducible apply LeO.ite
  | with_reducible apply LeO.loop
  | with_reducible apply LeO.fold
  | with_reducible exact LeO.refl _
  | (intro (u:Sum _ _); cases u <;> dsimp only)
  | intro _

def cmp_Compare_int_c (fuel:Nat) (p0_x:Int) (p1_y:Int) : Option Int :=
 ((cmp_isNaN_int_c fuel p0_x).bind fun y1 => ((cmp_isNaN_int_c fuel p1_y).bind fun y3 => (if y1 = true then (if y3 = true then some 0 else some (-1)) else (if y3 = true then some 1 else (if decide (p0_x < p1_y) = true then some (-1) else (if decide (p1_y < p0_x) = true then some 1 else some 0))))))
theorem cmp_Compare_int_le (fuel:Nat) (p0_x:Int) (p1_y:Int) : LeO (cmp_Compare_int_c fuel p0_x p1_y) (cmp_Compare_int p0_x p1_y):=by
 unfold cmp_Compare_int_c cmp_Compare_int
 repeat' first
  | with_reducible apply LeO.bind
  | with_reducible apply cmp_isNaN_int_le
  | with_reducible apply LeO.guard
  | with_reducible apply LeO.ite
  | with_reducible apply LeO.loop
  | with_reducible apply LeO.fold
  | with_reducible exact LeO.refl _
  | (intro (u:Sum _ _); cases u <;> dsimp only)
  | intro _

def recall_levels_1_c (fuel:Nat) (p0_a:Int) (p1_b:Int) (cap0:TLineage) : Option Int :=
 guardO ((0:Int) ≤ p0_a ∧ p0_a < (cap0.fNodes.length:Int)) (guardO ((0:Int) ≤ p1_b ∧ p1_b < (cap0.fNodes.length:Int)) (((cmp_Compare_int_c fuel ((rdL cap0.fNodes p0_a).fLevel) ((rdL cap0.fNodes p1_b).fLevel)).bind fun y3 => some y3)))
theorem recall_levels_1_le (fuel:Nat) (p0_a:Int) (p1_b:Int) (cap0:TLineage) : LeO (recall_levels_1_c fuel p0_a p1_b cap0) (recall_levels_1 p0_a p1_b cap0):=by
 unfold recall_levels_1_c recall_levels_1
 repeat' first
  | with_reducible apply LeO.bind
  | with_reducible apply cmp_Compare_int_le
  | with_reducible apply LeO.guard
  | with_reducible apply LeO.ite
  | with_reducible apply LeO.loop
  | with_reducible apply LeO.fold
  | with_reducible exact LeO.refl _
  | (intro (u:Sum _ _); cases u <;> dsimp only)
  | intro _

def recall_levels_l1_c (fuel:Nat) (p0_l:TLineage) (s6:(Int × (List Int))) : Option ((Int × (List Int)) ⊕ (Int × (List Int))) :=
 (if decide (s6.1 < ((Int.toNat (p0_l.fNodes.length:Int) : Nat) : Int)) = true then guardO ((0:Int) ≤ s6.1 ∧ s6.1 < ((Int.toNat (p0_l.fNodes.length:Int) : Nat) : Int)) (some (.inl (w64 (s6.1 + 1),(s6.2.set (Int.toNat s6.1) s6.1)))) else some (.inr (s6.1,s6.2)))
theorem recall_levels_l1_le (fuel:Nat) (p0_l:TLineage) (s6:(Int × (List Int))) : LeO (recall_levels_l1_c fuel p0_l s6) (recall_levels_l1 p0_l s6):=by
 unfold recall_levels_l1_c recall_levels_l1
 repeat' first
  | with_reducible first | apply LeO.bind | apply LeO.guard | apply LeO.ite | apply LeO.loop | apply LeO.fold | exact LeO.refl _
  | (intro (u:Sum _ _); cases u <;> dsimp only)
  | intro _
def recall_levels_c (fuel:Nat) (p0_l:TLineage) : Option (List Int) :=
 guardO ((0:Int) ≤ (p0_l.fNodes.length:Int) ∧ (p0_l.fNodes.length:Int) * 8 ≤ 281474976710656) (((loopF fuel (recall_levels_l1_c fuel p0_l) (0,(List.replicate (Int.toNat (p0_l.fNodes.length:Int)) 0))).bind fun u7 => ((slices_SortStableFunc_int_int_c fuel u7.2 (fun x11 x12 => recall_levels_1_c fuel x11 x12 p0_l)).bind fun y13 => some y13)))
theorem recall_levels_le (fuel:Nat) (p0_l:TLineage) : LeO (recall_levels_c fuel p0_l) (recall_levels p0_l):=by
 unfold recall_levels_c recall_levels
 repeat' first
  | with_reducible apply LeO.bind
  | with_reducible apply recall_levels_1_le
  | with_reducible apply recall_levels_l1_le
  | with_reducible apply slices_SortStableFunc_int_int_le
  | with_reducible apply LeO.guard
  | with_reducible apply LeO.ite
  | with_reducible apply LeO.loop
  | with_reducible apply LeO.fold
  | with_reducible exact LeO.refl _
  | (intro (u:Sum _ _); cases u <;> dsimp only)
  | intro _

def recall_reach_l2_c (fuel:Nat) (p0:TLineage) (p2:Int → Int → Option Bool) (s5:(Int × (List (Int × (List Int))))) (s12:(Int × (List (Int × (List Int))))) : Option ((Int × (List (Int × (List Int)))) ⊕ (Int × (List (Int × (List Int))))) :=
 (if decide (s12.1 < (((rdL p0.fClaims s5.1).fOptions.length : Nat) : Int)) = true then guardO ((0:Int) ≤ s12.1 ∧ s12.1 < (((rdL p0.fClaims s5.1).fOptions.length : Nat) : Int)) (((p2 s5.1 s12.1).bind fun y17 => (if y17 = true then guardO (rngB ((rdL ((rdL p0.fClaims s5.1).fOptions) s12.1).fFrom) = true) (guardO ((mgetV [] s12.2 ((rdL ((rdL p0.fClaims s5.1).fOptions) s12.1).fFrom)).length + 1 ≤ 1000000000) (guardO (rngB ((rdL ((rdL p0.fClaims s5.1).fOptions) s12.1).fFrom) = true ∧ List.length s12.2 < 1000000) (some (.inl (w64 (s12.1 + 1),(((rdL ((rdL p0.fClaims s5.1).fOptions) s12.1).fFrom,((mgetV [] s12.2 ((rdL ((rdL p0.fClaims s5.1).fOptions) s12.1).fFrom)) ++ [(rdL ((rdL p0.fClaims s5.1).fOptions) s12.1).fTo])) :: s12.2)))))) else some (.inl (w64 (s12.1 + 1),s12.2))))) else some (.inr (s12.1,s12.2)))
theorem recall_reach_l2_le (fuel:Nat) (p0:TLineage) (p2 p2' : Int → Int → Option Bool) (hp2:∀ x0 x1,LeO (p2 x0 x1) (p2' x0 x1)) (s5:(Int × (List (Int × (List Int))))) (s12:(Int × (List (Int × (List Int))))) : LeO (recall_reach_l2_c fuel p0 p2 s5 s12) (recall_reach_l2 p0 p2' s5 s12):=by
 unfold recall_reach_l2_c recall_reach_l2
 repeat' first
  | with_reducible apply LeO.bind
  | with_reducible apply hp2
  | with_reducible apply LeO.guard
  | with_reducible apply LeO.ite
  | with_reducible apply LeO.loop
  | with_reducible apply LeO.fold
  | with_reducible exact LeO.refl _
  | (intro (u:Sum _ _); cases u <;> dsimp only)
  | intro _
def recall_reach_l1_c (fuel:Nat) (p0:TLineage) (p2:Int → Int → Option Bool) (s5:(Int × (List (Int × (List Int))))) : Option ((Int × (List (Int × (List Int)))) ⊕ (Int × (List (Int × (List Int))))) :=
 (if decide (s5.1 < (p0.fClaims.length:Int)) = true then guardO ((0:Int) ≤ s5.1 ∧ s5.1 < (p0.fClaims.length:Int)) (((loopF fuel (recall_reach_l2_c fuel p0 p2 s5) (0,s5.2)).bind fun u13 => some (.inl (w64 (s5.1 + 1),u13.2)))) else some (.inr (s5.1,s5.2)))
theorem recall_reach_l1_le (fuel:Nat) (p0:TLineage) (p2 p2' : Int → Int → Option Bool) (hp2:∀ x0 x1,LeO (p2 x0 x1) (p2' x0 x1)) (s5:(Int × (List (Int × (List Int))))) : LeO (recall_reach_l1_c fuel p0 p2 s5) (recall_reach_l1 p0 p2' s5):=by
 unfold recall_reach_l1_c recall_reach_l1
 repeat' first
  | with_reducible apply LeO.bind
  | with_reducible apply hp2
  | with_reducible apply recall_reach_l2_le
  | with_reducible apply LeO.guard
  | with_reducible apply LeO.ite
  | with_reducible apply LeO.loop
  | with_reducible apply LeO.fold
  | with_reducible exact LeO.refl _
  | (intro (u:Sum _ _); cases u <;> dsimp only)
  | intro _
def recall_reach_l3_c (fuel:Nat) (p1:(List Int)) (s32:(Int × (List (Int × Bool)))) : Option ((Int × (List (Int × Bool))) ⊕ (Int × (List (Int × Bool)))) :=
 (if decide (s32.1 < (p1.length:Int)) = true then guardO ((0:Int) ≤ s32.1 ∧ s32.1 < (p1.length:Int)) (guardO (rngB (rdL p1 s32.1) = true ∧ List.length s32.2 < 1000000) (some (.inl (w64 (s32.1 + 1),(((rdL p1 s32.1),true) :: s32.2))))) else some (.inr (s32.1,s32.2)))
theorem recall_reach_l3_le (fuel:Nat) (p1:(List Int)) (s32:(Int × (List (Int × Bool)))) : LeO (recall_reach_l3_c fuel p1 s32) (recall_reach_l3 p1 s32):=by
 unfold recall_reach_l3_c recall_reach_l3
 repeat' first
  | with_reducible first | apply LeO.bind | apply LeO.guard | apply LeO.ite | apply LeO.loop | apply LeO.fold | exact LeO.refl _
  | (intro (u:Sum _ _); cases u <;> dsimp only)
  | intro _
def recall_reach_l5_c (fuel:Nat) (p0:TLineage) (u6:(Int × (List (Int × (List Int))))) (y38:(List Int)) (s46:(Int × (List (Int × Bool)))) (s56:(Int × (List (Int × Bool)))) : Option ((Int × (List (Int × Bool))) ⊕ (Int × (List (Int × Bool)))) :=
 (if decide (s56.1 < (((mgetV [] u6.2 ((rdL p0.fNodes (rdL y38 s46.1)).fID)).length : Nat) : Int)) = true then guardO ((0:Int) ≤ s56.1 ∧ s56.1 < (((mgetV [] u6.2 ((rdL p0.fNodes (rdL y38 s46.1)).fID)).length : Nat) : Int)) (guardO (rngB (rdL (mgetV [] u6.2 ((rdL p0.fNodes (rdL y38 s46.1)).fID)) s56.1) = true ∧ List.length s56.2 < 1000000) (some (.inl (w64 (s56.1 + 1),(((rdL (mgetV [] u6.2 ((rdL p0.fNodes (rdL y38 s46.1)).fID)) s56.1),true) :: s56.2))))) else some (.inr (s56.1,s56.2)))
theorem recall_reach_l5_le (fuel:Nat) (p0:TLineage) (u6:(Int × (List (Int × (List Int))))) (y38:(List Int)) (s46:(Int × (List (Int × Bool)))) (s56:(Int × (List (Int × Bool)))) : LeO (recall_reach_l5_c fuel p0 u6 y38 s46 s56) (recall_reach_l5 p0 u6 y38 s46 s56):=by
 unfold recall_reach_l5_c recall_reach_l5
 repeat' first
  | with_reducible first | apply LeO.bind | apply LeO.guard | apply LeO.ite | apply LeO.loop | apply LeO.fold | exact LeO.refl _
  | (intro (u:Sum _ _); cases u <;> dsimp only)
  | intro _
def recall_reach_l4_c (fuel:Nat) (p0:TLineage) (u6:(Int × (List (Int × (List Int))))) (y38:(List Int)) (s46:(Int × (List (Int × Bool)))) : Option ((Int × (List (Int × Bool))) ⊕ (Int × (List (Int × Bool)))) :=
 (if decide (s46.1 < (y38.length:Int)) = true then guardO ((0:Int) ≤ s46.1 ∧ s46.1 < (y38.length:Int)) (guardO ((0:Int) ≤ (rdL y38 s46.1) ∧ (rdL y38 s46.1) < (p0.fNodes.length:Int)) (guardO (rngB ((rdL p0.fNodes (rdL y38 s46.1)).fID) = true) ((if (!(mgetV false s46.2 ((rdL p0.fNodes (rdL y38 s46.1)).fID))) = true then some (.inl (w64 (s46.1 + 1),s46.2)) else guardO (rngB ((rdL p0.fNodes (rdL y38 s46.1)).fID) = true) (((loopF fuel (recall_reach_l5_c fuel p0 u6 y38 s46) (0,s46.2)).bind fun u57 => some (.inl (w64 (s46.1 + 1),u57.2)))))))) else some (.inr (s46.1,s46.2)))
theorem recall_reach_l4_le (fuel:Nat) (p0:TLineage) (u6:(Int × (List (Int × (List Int))))) (y38:(List Int)) (s46:(Int × (List (Int × Bool)))) : LeO (recall_reach_l4_c fuel p0 u6 y38 s46) (recall_reach_l4 p0 u6 y38 s46):=by
 unfold recall_reach_l4_c recall_reach_l4
 repeat' first
  | with_reducible apply LeO.bind
  | with_reducible apply recall_reach_l5_le
  | with_reducible apply LeO.guard
  | with_reducible apply LeO.ite
  | with_reducible apply LeO.loop
  | with_reducible apply LeO.fold
  | with_reducible exact LeO.refl _
  | (intro (u:Sum _ _); cases u <;> dsimp only)
  | intro _
def recall_reach_c (fuel:Nat) (p0:TLineage) (p1:(List Int)) (p2:Int → Int → Option Bool) : Option (List (Int × Bool)) :=
 ((loopF fuel (recall_reach_l1_c fuel p0 p2) (0,([]:(List (Int × (List Int)))))).bind fun u6 => ((loopF fuel (recall_reach_l3_c fuel p1) (0,[])).bind fun u33 => ((recall_levels_c fuel p0).bind fun y38 => ((loopF fuel (recall_reach_l4_c fuel p0 u6 y38) (0,u33.2)).bind fun u47 => some u47.2))))
theorem recall_reach_le (fuel:Nat) (p0:TLineage) (p1:(List Int)) (p2 p2' : Int → Int → Option Bool) (hp2:∀ x0 x1,LeO (p2 x0 x1) (p2' x0 x1)) : LeO (recall_reach_c fuel p0 p1 p2) (recall_reach p0 p1 p2'):=by
 unfold recall_reach_c recall_reach
 repeat' first
  | with_reducible apply LeO.bind
  | with_reducible apply hp2
  | with_reducible apply recall_levels_le
  | with_reducible apply recall_reach_l1_le
  | with_reducible apply recall_reach_l3_le
  | with_reducible apply recall_reach_l4_le
  | with_reducible apply LeO.guard
  | with_reducible apply LeO.ite
  | with_reducible apply LeO.loop
  | with_reducible apply LeO.fold
  | with_reducible exact LeO.refl _
  | (intro (u:Sum _ _); cases u <;> dsimp only)
  | intro _

def recall_fixed_has_c (fuel:Nat) (p0_c:(List Int)) (p1_link:Int) (p2_h:Int) : Option Bool :=
 guardO ((0:Int) ≤ p1_link ∧ p1_link < (p0_c.length:Int)) (some ((rdL p0_c p1_link) == p2_h))
theorem recall_fixed_has_le (fuel:Nat) (p0_c:(List Int)) (p1_link:Int) (p2_h:Int) : LeO (recall_fixed_has_c fuel p0_c p1_link p2_h) (recall_fixed_has p0_c p1_link p2_h):=by
 unfold recall_fixed_has_c recall_fixed_has
 repeat' first
  | with_reducible first | apply LeO.bind | apply LeO.guard | apply LeO.ite | apply LeO.loop | apply LeO.fold | exact LeO.refl _
  | (intro (u:Sum _ _); cases u <;> dsimp only)
  | intro _

def recall_inCase_c (fuel:Nat) (p0_c:(List Int)) : Option Unit :=
 some ()
theorem recall_inCase_le (fuel:Nat) (p0_c:(List Int)) : LeO (recall_inCase_c fuel p0_c) (recall_inCase p0_c):=by
 unfold recall_inCase_c recall_inCase
 repeat' first
  | with_reducible first | apply LeO.bind | apply LeO.guard | apply LeO.ite | apply LeO.loop | apply LeO.fold | exact LeO.refl _
  | (intro (u:Sum _ _); cases u <;> dsimp only)
  | intro _

def recall_possible_r1_c (fuel:Nat) (p0_l:TLineage) (p1_from:(List Int)) (s18:(List (Int × Bool))) (x19:(List Int)) : Option ((List (Int × Bool)) ⊕ Unit) :=
 ((recall_inCase_c fuel x19).bind fun y21 => ((recall_reach_c fuel p0_l p1_from (fun x23 x24 => recall_fixed_has_c fuel x19 x23 x24)).bind fun y25 => guardO (List.length s18 + List.length y25 ≤ 1000000) (some (.inl (unionV true y25 s18)))))
theorem recall_possible_r1_le (fuel:Nat) (p0_l:TLineage) (p1_from:(List Int)) (s18:(List (Int × Bool))) (x19:(List Int)) : LeO (recall_possible_r1_c fuel p0_l p1_from s18 x19) (recall_possible_r1 p0_l p1_from s18 x19):=by
 unfold recall_possible_r1_c recall_possible_r1
 repeat' first
  | with_reducible apply LeO.bind
  | with_reducible apply recall_fixed_has_le
  | with_reducible apply recall_inCase_le
  | with_reducible apply recall_reach_le
  | with_reducible apply LeO.guard
  | with_reducible apply LeO.ite
  | with_reducible apply LeO.loop
  | with_reducible apply LeO.fold
  | with_reducible exact LeO.refl _
  | (intro (u:Sum _ _); cases u <;> dsimp only)
  | intro _
def recall_possible_c (fuel:Nat) (p0_l:TLineage) (p1_from:(List Int)) : Option (List (Int × Bool)) :=
 ((recall_cases_c fuel p0_l).bind fun y5 => (guardO (seqCases_ok p0_l) ((foldO (recall_possible_r1_c fuel p0_l p1_from) (seqCases p0_l) []).bind fun u20 => match u20 with | .inl u45 => some u45 | .inr _ => none)))
theorem recall_possible_le (fuel:Nat) (p0_l:TLineage) (p1_from:(List Int)) : LeO (recall_possible_c fuel p0_l p1_from) (recall_possible p0_l p1_from):=by
 unfold recall_possible_c recall_possible
 repeat' first
  | with_reducible apply LeO.bind
  | with_reducible apply recall_cases_le
  | with_reducible apply recall_possible_r1_le
  | with_reducible apply LeO.guard
  | with_reducible apply LeO.ite
  | with_reducible apply LeO.loop
  | with_reducible apply LeO.fold
  | with_reducible exact LeO.refl _
  | (intro (u:Sum _ _); cases u <;> dsimp only)
  | intro _

def recall_sure_r1_c (fuel:Nat) (p0_l:TLineage) (p1_from:(List Int)) (s20:(List (Int × Bool))) (x21:(List Int)) : Option ((List (Int × Bool)) ⊕ Unit) :=
 ((recall_inCase_c fuel x21).bind fun y23 => ((recall_reach_c fuel p0_l p1_from (fun x25 x26 => recall_fixed_has_c fuel x21 x25 x26)).bind fun y27 => some (.inl (s20.filter (fun p => !(fun y33 => (!(mgetV false y27 y33))) p.1)))))
theorem recall_sure_r1_le (fuel:Nat) (p0_l:TLineage) (p1_from:(List Int)) (s20:(List (Int × Bool))) (x21:(List Int)) : LeO (recall_sure_r1_c fuel p0_l p1_from s20 x21) (recall_sure_r1 p0_l p1_from s20 x21):=by
 unfold recall_sure_r1_c recall_sure_r1
 repeat' first
  | with_reducible apply LeO.bind
  | with_reducible apply recall_fixed_has_le
  | with_reducible apply recall_inCase_le
  | with_reducible apply recall_reach_le
  | with_reducible apply LeO.guard
  | with_reducible apply LeO.ite
  | with_reducible apply LeO.loop
  | with_reducible apply LeO.fold
  | with_reducible exact LeO.refl _
  | (intro (u:Sum _ _); cases u <;> dsimp only)
  | intro _
def recall_sure_c (fuel:Nat) (p0_l:TLineage) (p1_from:(List Int)) : Option (List (Int × Bool)) :=
 ((recall_possible_c fuel p0_l p1_from).bind fun y3 => ((recall_cases_c fuel p0_l).bind fun y7 => (guardO (seqCases_ok p0_l) ((foldO (recall_sure_r1_c fuel p0_l p1_from) (seqCases p0_l) y3).bind fun u22 => match u22 with | .inl u48 => some u48 | .inr _ => none))))
theorem recall_sure_le (fuel:Nat) (p0_l:TLineage) (p1_from:(List Int)) : LeO (recall_sure_c fuel p0_l p1_from) (recall_sure p0_l p1_from):=by
 unfold recall_sure_c recall_sure
 repeat' first
  | with_reducible apply LeO.bind
  | with_reducible apply recall_cases_le
  | with_reducible apply recall_possible_le
  | with_reducible apply recall_sure_r1_le
  | with_reducible apply LeO.guard
  | with_reducible apply LeO.ite
  | with_reducible apply LeO.loop
  | with_reducible apply LeO.fold
  | with_reducible exact LeO.refl _
  | (intro (u:Sum _ _); cases u <;> dsimp only)
  | intro _

def recall_Surely_c (fuel:Nat) (p0_l:TLineage) (p1_from:(List Int)) : Option ((List Int) × Int) :=
 ((recall_asked_c fuel p0_l p1_from).bind fun y2 => (if (y2 != 0) = true then some ([],y2) else ((recall_sure_c fuel p0_l p1_from).bind fun y5 => ((recall_listed y5).bind fun y8 => some (y8,0)))))
theorem recall_Surely_le (fuel:Nat) (p0_l:TLineage) (p1_from:(List Int)) : LeO (recall_Surely_c fuel p0_l p1_from) (recall_Surely p0_l p1_from):=by
 unfold recall_Surely_c recall_Surely
 repeat' first
  | with_reducible apply LeO.bind
  | with_reducible apply recall_asked_le
  | with_reducible apply recall_sure_le
  | with_reducible apply LeO.guard
  | with_reducible apply LeO.ite
  | with_reducible apply LeO.loop
  | with_reducible apply LeO.fold
  | with_reducible exact LeO.refl _
  | (intro (u:Sum _ _); cases u <;> dsimp only)
  | intro _

def recall_Possibly_c (fuel:Nat) (p0_l:TLineage) (p1_from:(List Int)) : Option ((List Int) × Int) :=
 ((recall_asked_c fuel p0_l p1_from).bind fun y2 => (if (y2 != 0) = true then some ([],y2) else ((recall_possible_c fuel p0_l p1_from).bind fun y5 => ((recall_listed y5).bind fun y8 => some (y8,0)))))
theorem recall_Possibly_le (fuel:Nat) (p0_l:TLineage) (p1_from:(List Int)) : LeO (recall_Possibly_c fuel p0_l p1_from) (recall_Possibly p0_l p1_from):=by
 unfold recall_Possibly_c recall_Possibly
 repeat' first
  | with_reducible apply LeO.bind
  | with_reducible apply recall_asked_le
  | with_reducible apply recall_possible_le
  | with_reducible apply LeO.guard
  | with_reducible apply LeO.ite
  | with_reducible apply LeO.loop
  | with_reducible apply LeO.fold
  | with_reducible exact LeO.refl _
  | (intro (u:Sum _ _); cases u <;> dsimp only)
  | intro _

def recall_askedTo_c (fuel:Nat) (p0_l:TLineage) (p1_from:(List Int)) (p2_to:Int) : Option Int :=
 ((recall_asked_c fuel p0_l p1_from).bind fun y2 => (if (y2 != 0) = true then some y2 else ((recall_nodeOf_c fuel p0_l p2_to).bind fun y5 => (if decide (y5 < 0) = true then some 5 else some 0))))
theorem recall_askedTo_le (fuel:Nat) (p0_l:TLineage) (p1_from:(List Int)) (p2_to:Int) : LeO (recall_askedTo_c fuel p0_l p1_from p2_to) (recall_askedTo p0_l p1_from p2_to):=by
 unfold recall_askedTo_c recall_askedTo
 repeat' first
  | with_reducible apply LeO.bind
  | with_reducible apply recall_asked_le
  | with_reducible apply recall_nodeOf_le
  | with_reducible apply LeO.guard
  | with_reducible apply LeO.ite
  | with_reducible apply LeO.loop
  | with_reducible apply LeO.fold
  | with_reducible exact LeO.refl _
  | (intro (u:Sum _ _); cases u <;> dsimp only)
  | intro _

def recall_Share_r1_c (fuel:Nat) (p0_l:TLineage) (p1_from:(List Int)) (p2_to:Int) (s23:(Int × Int)) (x24:(List Int)) : Option ((Int × Int) ⊕ Unit) :=
 ((recall_inCase_c fuel x24).bind fun y27 => ((recall_reach_c fuel p0_l p1_from (fun x29 x30 => recall_fixed_has_c fuel x24 x29 x30)).bind fun y31 => guardO (rngB p2_to = true) ((if mgetV false y31 p2_to = true then some (.inl (w64 (s23.1 + 1),w64 (s23.2 + 1))) else some (.inl (s23.1,w64 (s23.2 + 1)))))))
theorem recall_Share_r1_le (fuel:Nat) (p0_l:TLineage) (p1_from:(List Int)) (p2_to:Int) (s23:(Int × Int)) (x24:(List Int)) : LeO (recall_Share_r1_c fuel p0_l p1_from p2_to s23 x24) (recall_Share_r1 p0_l p1_from p2_to s23 x24):=by
 unfold recall_Share_r1_c recall_Share_r1
 repeat' first
  | with_reducible apply LeO.bind
  | with_reducible apply recall_fixed_has_le
  | with_reducible apply recall_inCase_le
  | with_reducible apply recall_reach_le
  | with_reducible apply LeO.guard
  | with_reducible apply LeO.ite
  | with_reducible apply LeO.loop
  | with_reducible apply LeO.fold
  | with_reducible exact LeO.refl _
  | (intro (u:Sum _ _); cases u <;> dsimp only)
  | intro _
def recall_Share_l2_c (fuel:Nat) (s40:(Int × Int)) : Option ((Int × Int) ⊕ (Int × Int)) :=
 (if decide (0 < s40.2) = true then guardO (s40.2 ≠ 0) (some (.inl (s40.2,Int.tmod s40.1 s40.2))) else some (.inr (s40.1,s40.2)))
theorem recall_Share_l2_le (fuel:Nat) (s40:(Int × Int)) : LeO (recall_Share_l2_c fuel s40) (recall_Share_l2 s40):=by
 unfold recall_Share_l2_c recall_Share_l2
 repeat' first
  | with_reducible first | apply LeO.bind | apply LeO.guard | apply LeO.ite | apply LeO.loop | apply LeO.fold | exact LeO.refl _
  | (intro (u:Sum _ _); cases u <;> dsimp only)
  | intro _
def recall_Share_c (fuel:Nat) (p0_l:TLineage) (p1_from:(List Int)) (p2_to:Int) : Option (TRatio × Int) :=
 ((recall_askedTo_c fuel p0_l p1_from p2_to).bind fun y5 => (if (y5 != 0) = true then some ((TRatio.mk 0 0),y5) else ((recall_cases_c fuel p0_l).bind fun y10 => (guardO (seqCases_ok p0_l) ((foldO (recall_Share_r1_c fuel p0_l p1_from p2_to) (seqCases p0_l) (0,0)).bind fun u25 => match u25 with | .inl u38 => ((loopF fuel (recall_Share_l2_c fuel) (u38.1,u38.2)).bind fun u41 => guardO (u41.1 ≠ 0) (guardO (u41.1 ≠ 0) (some ((TRatio.mk (w64 (Int.tdiv u38.1 u41.1)) (w64 (Int.tdiv u38.2 u41.1))),0)))) | .inr _ => none)))))
theorem recall_Share_le (fuel:Nat) (p0_l:TLineage) (p1_from:(List Int)) (p2_to:Int) : LeO (recall_Share_c fuel p0_l p1_from p2_to) (recall_Share p0_l p1_from p2_to):=by
 unfold recall_Share_c recall_Share
 repeat' first
  | with_reducible apply LeO.bind
  | with_reducible apply recall_Share_l2_le
  | with_reducible apply recall_Share_r1_le
  | with_reducible apply recall_askedTo_le
  | with_reducible apply recall_cases_le
  | with_reducible apply LeO.guard
  | with_reducible apply LeO.ite
  | with_reducible apply LeO.loop
  | with_reducible apply LeO.fold
  | with_reducible exact LeO.refl _
  | (intro (u:Sum _ _); cases u <;> dsimp only)
  | intro _

def ref09_SameInts_l1_c (fuel:Nat) (p0_a:(List Int)) (p1_b:(List Int)) (s3:(Bool × Int)) : Option ((Bool × Int) ⊕ ((Bool × Int) ⊕ (Bool × Int))) :=
 (if decide (s3.2 < (p0_a.length:Int)) = true then guardO ((0:Int) ≤ s3.2 ∧ s3.2 < (p0_a.length:Int)) (guardO ((0:Int) ≤ s3.2 ∧ s3.2 < (p1_b.length:Int)) ((if ((rdL p0_a s3.2) != (rdL p1_b s3.2)) = true then some (.inr (.inl (false,s3.2))) else some (.inl (s3.1,w64 (s3.2 + 1)))))) else some (.inr (.inr (s3.1,s3.2))))
theorem ref09_SameInts_l1_le (fuel:Nat) (p0_a:(List Int)) (p1_b:(List Int)) (s3:(Bool × Int)) : LeO (ref09_SameInts_l1_c fuel p0_a p1_b s3) (ref09_SameInts_l1 p0_a p1_b s3):=by
 unfold ref09_SameInts_l1_c ref09_SameInts_l1
 repeat' first
  | with_reducible first | apply LeO.bind | apply LeO.guard | apply LeO.ite | apply LeO.loop | apply LeO.fold | exact LeO.refl _
  | (intro (u:Sum _ _); cases u <;> dsimp only)
  | intro _
def ref09_SameInts_c (fuel:Nat) (p0_a:(List Int)) (p1_b:(List Int)) : Option Bool :=
 (if ((p0_a.length:Int) != (p1_b.length:Int)) = true then some false else ((loopF fuel (ref09_SameInts_l1_c fuel p0_a p1_b) (false,0)).bind fun u4 => match u4 with | (.inl u10) => some u10.1 | (.inr u11) => some true))
theorem ref09_SameInts_le (fuel:Nat) (p0_a:(List Int)) (p1_b:(List Int)) : LeO (ref09_SameInts_c fuel p0_a p1_b) (ref09_SameInts p0_a p1_b):=by
 unfold ref09_SameInts_c ref09_SameInts
 repeat' first
  | with_reducible apply LeO.bind
  | with_reducible apply ref09_SameInts_l1_le
  | with_reducible apply LeO.guard
  | with_reducible apply LeO.ite
  | with_reducible apply LeO.loop
  | with_reducible apply LeO.fold
  | with_reducible exact LeO.refl _
  | (intro (u:Sum _ _); cases u <;> dsimp only)
  | intro _

def recall_walls_l1_c (fuel:Nat) (p0_l:TLineage) (p1_set:(List (Int × Bool))) (s5:(Int × Int × (List (Int × Bool)))) : Option ((Int × Int × (List (Int × Bool))) ⊕ (Int × Int × (List (Int × Bool)))) :=
 (if decide (s5.2.1 < (p0_l.fNodes.length:Int)) = true then guardO ((0:Int) ≤ s5.2.1 ∧ s5.2.1 < (p0_l.fNodes.length:Int)) (((if (((rdL p0_l.fNodes s5.2.1).fLevel) == 9) = true then (guardO (rngB ((rdL p0_l.fNodes s5.2.1).fID) = true) (some (mgetV false p1_set ((rdL p0_l.fNodes s5.2.1).fID)))) else (some (false))).bind fun b11 => (if b11 = true then guardO (rngB ((rdL p0_l.fNodes s5.2.1).fID) = true ∧ List.length s5.2.2 < 1000000) (some (.inl (w64 (s5.1 + ((rdL p0_l.fNodes s5.2.1).fCost)),w64 (s5.2.1 + 1),(((rdL p0_l.fNodes s5.2.1).fID,true) :: s5.2.2)))) else some (.inl (s5.1,w64 (s5.2.1 + 1),s5.2.2))))) else some (.inr (s5.1,s5.2.1,s5.2.2)))
theorem recall_walls_l1_le (fuel:Nat) (p0_l:TLineage) (p1_set:(List (Int × Bool))) (s5:(Int × Int × (List (Int × Bool)))) : LeO (recall_walls_l1_c fuel p0_l p1_set s5) (recall_walls_l1 p0_l p1_set s5):=by
 unfold recall_walls_l1_c recall_walls_l1
 repeat' first
  | with_reducible first | apply LeO.bind | apply LeO.guard | apply LeO.ite | apply LeO.loop | apply LeO.fold | exact LeO.refl _
  | (intro (u:Sum _ _); cases u <;> dsimp only)
  | intro _
def recall_walls_c (fuel:Nat) (p0_l:TLineage) (p1_set:(List (Int × Bool))) : Option ((List Int) × Int) :=
 ((loopF fuel (recall_walls_l1_c fuel p0_l p1_set) (0,0,[])).bind fun u6 => ((recall_listed u6.2.2).bind fun y17 => some (y17,u6.1)))
theorem recall_walls_le (fuel:Nat) (p0_l:TLineage) (p1_set:(List (Int × Bool))) : LeO (recall_walls_c fuel p0_l p1_set) (recall_walls p0_l p1_set):=by
 unfold recall_walls_c recall_walls
 repeat' first
  | with_reducible apply LeO.bind
  | with_reducible apply recall_walls_l1_le
  | with_reducible apply LeO.guard
  | with_reducible apply LeO.ite
  | with_reducible apply LeO.loop
  | with_reducible apply LeO.fold
  | with_reducible exact LeO.refl _
  | (intro (u:Sum _ _); cases u <;> dsimp only)
  | intro _

def recall_Recall_c (fuel:Nat) (p0_l:TLineage) (p1_from:(List Int)) (p2_surely:Bool) : Option ((List Int) × Int × Int) :=
 ((recall_asked_c fuel p0_l p1_from).bind fun y2 => (if (y2 != 0) = true then some ([],0,y2) else ((recall_possible_c fuel p0_l p1_from).bind fun y5 => (if p2_surely = true then ((recall_sure_c fuel p0_l p1_from).bind fun y9 => ((recall_walls_c fuel p0_l y9).bind fun y12 => some (y12.1,y12.2,0))) else ((recall_walls_c fuel p0_l y5).bind fun y18 => some (y18.1,y18.2,0))))))
theorem recall_Recall_le (fuel:Nat) (p0_l:TLineage) (p1_from:(List Int)) (p2_surely:Bool) : LeO (recall_Recall_c fuel p0_l p1_from p2_surely) (recall_Recall p0_l p1_from p2_surely):=by
 unfold recall_Recall_c recall_Recall
 repeat' first
  | with_reducible apply LeO.bind
  | with_reducible apply recall_asked_le
  | with_reducible apply recall_possible_le
  | with_reducible apply recall_sure_le
  | with_reducible apply recall_walls_le
  | with_reducible apply LeO.guard
  | with_reducible apply LeO.ite
  | with_reducible apply LeO.loop
  | with_reducible apply LeO.fold
  | with_reducible exact LeO.refl _
  | (intro (u:Sum _ _); cases u <;> dsimp only)
  | intro _

def slices_Clone_Hop_Hop_c (fuel:Nat) (p0_s:(List THop)) : Option (List THop) :=
 guardO (0 + p0_s.length ≤ 1000000000) (some (([]:List THop) ++ p0_s))
theorem slices_Clone_Hop_Hop_le (fuel:Nat) (p0_s:(List THop)) : LeO (slices_Clone_Hop_Hop_c fuel p0_s) (slices_Clone_Hop_Hop p0_s):=by
 unfold slices_Clone_Hop_Hop_c slices_Clone_Hop_Hop
 repeat' first
  | with_reducible first | apply LeO.bind | apply LeO.guard | apply LeO.ite | apply LeO.loop | apply LeO.fold | exact LeO.refl _
  | (intro (u:Sum _ _); cases u <;> dsimp only)
  | intro _

def slices_Clone_Node_Node_c (fuel:Nat) (p0_s:(List TNode)) : Option (List TNode) :=
 guardO (0 + p0_s.length ≤ 1000000000) (some (([]:List TNode) ++ p0_s))
theorem slices_Clone_Node_Node_le (fuel:Nat) (p0_s:(List TNode)) : LeO (slices_Clone_Node_Node_c fuel p0_s) (slices_Clone_Node_Node p0_s):=by
 unfold slices_Clone_Node_Node_c slices_Clone_Node_Node
 repeat' first
  | with_reducible first | apply LeO.bind | apply LeO.guard | apply LeO.ite | apply LeO.loop | apply LeO.fold | exact LeO.refl _
  | (intro (u:Sum _ _); cases u <;> dsimp only)
  | intro _

def slices_Clone_Claim_Claim_c (fuel:Nat) (p0_s:(List TClaim)) : Option (List TClaim) :=
 guardO (0 + p0_s.length ≤ 1000000000) (some (([]:List TClaim) ++ p0_s))
theorem slices_Clone_Claim_Claim_le (fuel:Nat) (p0_s:(List TClaim)) : LeO (slices_Clone_Claim_Claim_c fuel p0_s) (slices_Clone_Claim_Claim p0_s):=by
 unfold slices_Clone_Claim_Claim_c slices_Clone_Claim_Claim
 repeat' first
  | with_reducible first | apply LeO.bind | apply LeO.guard | apply LeO.ite | apply LeO.loop | apply LeO.fold | exact LeO.refl _
  | (intro (u:Sum _ _); cases u <;> dsimp only)
  | intro _

def recall_copied_l1_c (fuel:Nat) (y10:(List TClaim)) (s22:(Int × (List TClaim))) : Option ((Int × (List TClaim)) ⊕ (Int × (List TClaim))) :=
 (if decide (s22.1 < (y10.length:Int)) = true then guardO ((0:Int) ≤ s22.1 ∧ s22.1 < (y10.length:Int)) (((slices_Clone_Hop_Hop_c fuel ((rdL s22.2 s22.1).fOptions)).bind fun y26 => guardO ((0:Int) ≤ s22.1 ∧ s22.1 < (y10.length:Int)) (some (.inl (w64 (s22.1 + 1),(s22.2.set (Int.toNat s22.1) (TClaim.mk ((rdL s22.2 s22.1).fID) y26))))))) else some (.inr (s22.1,s22.2)))
theorem recall_copied_l1_le (fuel:Nat) (y10:(List TClaim)) (s22:(Int × (List TClaim))) : LeO (recall_copied_l1_c fuel y10 s22) (recall_copied_l1 y10 s22):=by
 unfold recall_copied_l1_c recall_copied_l1
 repeat' first
  | with_reducible apply LeO.bind
  | with_reducible apply slices_Clone_Hop_Hop_le
  | with_reducible apply LeO.guard
  | with_reducible apply LeO.ite
  | with_reducible apply LeO.loop
  | with_reducible apply LeO.fold
  | with_reducible exact LeO.refl _
  | (intro (u:Sum _ _); cases u <;> dsimp only)
  | intro _
def recall_copied_c (fuel:Nat) (p0_l:TLineage) : Option TLineage :=
 ((slices_Clone_Node_Node_c fuel p0_l.fNodes).bind fun y4 => ((slices_Clone_Claim_Claim_c fuel p0_l.fClaims).bind fun y10 => ((loopF fuel (recall_copied_l1_c fuel y10) (0,y10)).bind fun u23 => some (TLineage.mk y4 u23.2))))
theorem recall_copied_le (fuel:Nat) (p0_l:TLineage) : LeO (recall_copied_c fuel p0_l) (recall_copied p0_l):=by
 unfold recall_copied_c recall_copied
 repeat' first
  | with_reducible apply LeO.bind
  | with_reducible apply recall_copied_l1_le
  | with_reducible apply slices_Clone_Claim_Claim_le
  | with_reducible apply slices_Clone_Node_Node_le
  | with_reducible apply LeO.guard
  | with_reducible apply LeO.ite
  | with_reducible apply LeO.loop
  | with_reducible apply LeO.fold
  | with_reducible exact LeO.refl _
  | (intro (u:Sum _ _); cases u <;> dsimp only)
  | intro _

def recall_told_c (fuel:Nat) (p0_l:TLineage) (p1_i:Int) (p2_o:(List THop)) : Option TLineage :=
 ((recall_copied_c fuel p0_l).bind fun y3 => ((slices_Clone_Hop_Hop_c fuel p2_o).bind fun y22 => guardO ((0:Int) ≤ p1_i ∧ p1_i < (y3.fClaims.length:Int)) (some (TLineage.mk y3.fNodes (y3.fClaims.set (Int.toNat p1_i) (TClaim.mk ((rdL y3.fClaims p1_i).fID) y22))))))
theorem recall_told_le (fuel:Nat) (p0_l:TLineage) (p1_i:Int) (p2_o:(List THop)) : LeO (recall_told_c fuel p0_l p1_i p2_o) (recall_told p0_l p1_i p2_o):=by
 unfold recall_told_c recall_told
 repeat' first
  | with_reducible apply LeO.bind
  | with_reducible apply recall_copied_le
  | with_reducible apply slices_Clone_Hop_Hop_le
  | with_reducible apply LeO.guard
  | with_reducible apply LeO.ite
  | with_reducible apply LeO.loop
  | with_reducible apply LeO.fold
  | with_reducible exact LeO.refl _
  | (intro (u:Sum _ _); cases u <;> dsimp only)
  | intro _

def recall_doubt_c (fuel:Nat) (p0_l:TLineage) (p1_from:(List Int)) : Option Int :=
 ((recall_possible_c fuel p0_l p1_from).bind fun y2 => ((recall_sure_c fuel p0_l p1_from).bind fun y5 => ((recall_walls_c fuel p0_l (diffV y5 y2)).bind fun y23 => some y23.2)))
theorem recall_doubt_le (fuel:Nat) (p0_l:TLineage) (p1_from:(List Int)) : LeO (recall_doubt_c fuel p0_l p1_from) (recall_doubt p0_l p1_from):=by
 unfold recall_doubt_c recall_doubt
 repeat' first
  | with_reducible apply LeO.bind
  | with_reducible apply recall_possible_le
  | with_reducible apply recall_sure_le
  | with_reducible apply recall_walls_le
  | with_reducible apply LeO.guard
  | with_reducible apply LeO.ite
  | with_reducible apply LeO.loop
  | with_reducible apply LeO.fold
  | with_reducible exact LeO.refl _
  | (intro (u:Sum _ _); cases u <;> dsimp only)
  | intro _

def recall_least_calx_recall_asking_l1_c (fuel:Nat) (p0_l:(List Tasking)) (p1_less:Tasking → Tasking → Option Bool) (s5:(Int × Int × Int)) : Option ((Int × Int × Int) ⊕ (Int × Int × Int)) :=
 (if decide (s5.1 < (p0_l.length:Int)) = true then guardO ((0:Int) ≤ s5.1 ∧ s5.1 < (p0_l.length:Int)) (((if (s5.1 == 0) = true then (some (true)) else ((p1_less (Tasking.mk ((rdL p0_l s5.1).f_id) ((rdL p0_l s5.1).f_left)) (Tasking.mk s5.2.1 s5.2.2)).bind fun y14 => some (y14))).bind fun b11 => (if b11 = true then some (.inl (w64 (s5.1 + 1),(rdL p0_l s5.1).f_id,(rdL p0_l s5.1).f_left)) else some (.inl (w64 (s5.1 + 1),s5.2.1,s5.2.2))))) else some (.inr (s5.1,s5.2.1,s5.2.2)))
theorem recall_least_calx_recall_asking_l1_le (fuel:Nat) (p0_l:(List Tasking)) (p1_less p1_less' : Tasking → Tasking → Option Bool) (hp1_less:∀ x0 x1,LeO (p1_less x0 x1) (p1_less' x0 x1)) (s5:(Int × Int × Int)) : LeO (recall_least_calx_recall_asking_l1_c fuel p0_l p1_less s5) (recall_least_calx_recall_asking_l1 p0_l p1_less' s5):=by
 unfold recall_least_calx_recall_asking_l1_c recall_least_calx_recall_asking_l1
 repeat' first
  | with_reducible apply LeO.bind
  | with_reducible apply hp1_less
  | with_reducible apply LeO.guard
  | with_reducible apply LeO.ite
  | with_reducible apply LeO.loop
  | with_reducible apply LeO.fold
  | with_reducible exact LeO.refl _
  | (intro (u:Sum _ _); cases u <;> dsimp only)
  | intro _
def recall_least_calx_recall_asking_c (fuel:Nat) (p0_l:(List Tasking)) (p1_less:Tasking → Tasking → Option Bool) : Option (Tasking × Bool) :=
 ((loopF fuel (recall_least_calx_recall_asking_l1_c fuel p0_l p1_less) (0,0,0)).bind fun u6 => some ((Tasking.mk u6.2.1 u6.2.2),decide (0 < (p0_l.length:Int))))
theorem recall_least_calx_recall_asking_le (fuel:Nat) (p0_l:(List Tasking)) (p1_less p1_less' : Tasking → Tasking → Option Bool) (hp1_less:∀ x0 x1,LeO (p1_less x0 x1) (p1_less' x0 x1)) : LeO (recall_least_calx_recall_asking_c fuel p0_l p1_less) (recall_least_calx_recall_asking p0_l p1_less'):=by
 unfold recall_least_calx_recall_asking_c recall_least_calx_recall_asking
 repeat' first
  | with_reducible apply LeO.bind
  | with_reducible apply hp1_less
  | with_reducible apply recall_least_calx_recall_asking_l1_le
  | with_reducible apply LeO.guard
  | with_reducible apply LeO.ite
  | with_reducible apply LeO.loop
  | with_reducible apply LeO.fold
  | with_reducible exact LeO.refl _
  | (intro (u:Sum _ _); cases u <;> dsimp only)
  | intro _

def recall_Ask_1_c (fuel:Nat) (p0_a:Tasking) (p1_b:Tasking) : Option Bool :=
 some ((decide (p0_a.f_left < p1_b.f_left)) || ((p0_a.f_left == p1_b.f_left) && (decide (p0_a.f_id < p1_b.f_id))))
theorem recall_Ask_1_le (fuel:Nat) (p0_a:Tasking) (p1_b:Tasking) : LeO (recall_Ask_1_c fuel p0_a p1_b) (recall_Ask_1 p0_a p1_b):=by
 unfold recall_Ask_1_c recall_Ask_1
 repeat' first
  | with_reducible first | apply LeO.bind | apply LeO.guard | apply LeO.ite | apply LeO.loop | apply LeO.fold | exact LeO.refl _
  | (intro (u:Sum _ _); cases u <;> dsimp only)
  | intro _

def recall_Ask_l2_c (fuel:Nat) (p0:TLineage) (p1:(List Int)) (s7:(Int × (List Tasking))) (s16:(Int × Int)) : Option ((Int × Int) ⊕ (Int × Int)) :=
 (if decide (s16.1 < (((rdL p0.fClaims s7.1).fOptions.length : Nat) : Int)) = true then guardO ((0:Int) ≤ s16.1 ∧ s16.1 ≤ w64 (s16.1 + 1) ∧ w64 (s16.1 + 1) ≤ w64 (s16.1 + 1) ∧ w64 (s16.1 + 1) ≤ (((rdL p0.fClaims s7.1).fOptions.length : Nat) : Int)) (((recall_told_c fuel p0 s7.1 ((((rdL p0.fClaims s7.1).fOptions).drop (Int.toNat s16.1)).take (Int.toNat (w64 (s16.1 + 1)) - Int.toNat s16.1))).bind fun y20 => ((recall_doubt_c fuel y20 p1).bind fun y34 => some (.inl (w64 (s16.1 + 1),max s16.2 y34))))) else some (.inr (s16.1,s16.2)))
theorem recall_Ask_l2_le (fuel:Nat) (p0:TLineage) (p1:(List Int)) (s7:(Int × (List Tasking))) (s16:(Int × Int)) : LeO (recall_Ask_l2_c fuel p0 p1 s7 s16) (recall_Ask_l2 p0 p1 s7 s16):=by
 unfold recall_Ask_l2_c recall_Ask_l2
 repeat' first
  | with_reducible apply LeO.bind
  | with_reducible apply recall_doubt_le
  | with_reducible apply recall_told_le
  | with_reducible apply LeO.guard
  | with_reducible apply LeO.ite
  | with_reducible apply LeO.loop
  | with_reducible apply LeO.fold
  | with_reducible exact LeO.refl _
  | (intro (u:Sum _ _); cases u <;> dsimp only)
  | intro _
def recall_Ask_l1_c (fuel:Nat) (p0:TLineage) (p1:(List Int)) (s7:(Int × (List Tasking))) : Option ((Int × (List Tasking)) ⊕ (Int × (List Tasking))) :=
 (if decide (s7.1 < (p0.fClaims.length:Int)) = true then guardO ((0:Int) ≤ s7.1 ∧ s7.1 < (p0.fClaims.length:Int)) ((if decide ((((rdL p0.fClaims s7.1).fOptions.length : Nat) : Int) < 2) = true then some (.inl (w64 (s7.1 + 1),s7.2)) else ((loopF fuel (recall_Ask_l2_c fuel p0 p1 s7) (0,0)).bind fun u17 => guardO (s7.2.length + 1 ≤ 1000000000) (some (.inl (w64 (s7.1 + 1),(s7.2 ++ [(Tasking.mk ((rdL p0.fClaims s7.1).fID) u17.2)]))))))) else some (.inr (s7.1,s7.2)))
theorem recall_Ask_l1_le (fuel:Nat) (p0:TLineage) (p1:(List Int)) (s7:(Int × (List Tasking))) : LeO (recall_Ask_l1_c fuel p0 p1 s7) (recall_Ask_l1 p0 p1 s7):=by
 unfold recall_Ask_l1_c recall_Ask_l1
 repeat' first
  | with_reducible apply LeO.bind
  | with_reducible apply recall_Ask_l2_le
  | with_reducible apply LeO.guard
  | with_reducible apply LeO.ite
  | with_reducible apply LeO.loop
  | with_reducible apply LeO.fold
  | with_reducible exact LeO.refl _
  | (intro (u:Sum _ _); cases u <;> dsimp only)
  | intro _
def recall_Ask_c (fuel:Nat) (p0:TLineage) (p1:(List Int)) : Option (Int × Int × Int) :=
 ((recall_asked_c fuel p0 p1).bind fun y2 => (if (y2 != 0) = true then some (0,0,y2) else ((loopF fuel (recall_Ask_l1_c fuel p0 p1) (0,([]:List Tasking))).bind fun u8 => ((recall_least_calx_recall_asking_c fuel u8.2 (fun x54 x55 => recall_Ask_1_c fuel x54 x55)).bind fun y56 => (if (!y56.2) = true then some (0,0,5) else some (y56.1.f_id,y56.1.f_left,0))))))
theorem recall_Ask_le (fuel:Nat) (p0:TLineage) (p1:(List Int)) : LeO (recall_Ask_c fuel p0 p1) (recall_Ask p0 p1):=by
 unfold recall_Ask_c recall_Ask
 repeat' first
  | with_reducible apply LeO.bind
  | with_reducible apply recall_Ask_1_le
  | with_reducible apply recall_Ask_l1_le
  | with_reducible apply recall_asked_le
  | with_reducible apply recall_least_calx_recall_asking_le
  | with_reducible apply LeO.guard
  | with_reducible apply LeO.ite
  | with_reducible apply LeO.loop
  | with_reducible apply LeO.fold
  | with_reducible exact LeO.refl _
  | (intro (u:Sum _ _); cases u <;> dsimp only)
  | intro _

def slices_Index_int_int_l1_c (fuel:Nat) (p0_s:(List Int)) (p1_v:Int) (s2:(Int × Int)) : Option ((Int × Int) ⊕ ((Int × Int) ⊕ (Int × Int))) :=
 (if decide (s2.2 < (p0_s.length:Int)) = true then guardO ((0:Int) ≤ s2.2 ∧ s2.2 < (p0_s.length:Int)) ((if (p1_v == (rdL p0_s s2.2)) = true then some (.inr (.inl (s2.2,s2.2))) else some (.inl (s2.1,w64 (s2.2 + 1))))) else some (.inr (.inr (s2.1,s2.2))))
theorem slices_Index_int_int_l1_le (fuel:Nat) (p0_s:(List Int)) (p1_v:Int) (s2:(Int × Int)) : LeO (slices_Index_int_int_l1_c fuel p0_s p1_v s2) (slices_Index_int_int_l1 p0_s p1_v s2):=by
 unfold slices_Index_int_int_l1_c slices_Index_int_int_l1
 repeat' first
  | with_reducible first | apply LeO.bind | apply LeO.guard | apply LeO.ite | apply LeO.loop | apply LeO.fold | exact LeO.refl _
  | (intro (u:Sum _ _); cases u <;> dsimp only)
  | intro _
def slices_Index_int_int_c (fuel:Nat) (p0_s:(List Int)) (p1_v:Int) : Option Int :=
 ((loopF fuel (slices_Index_int_int_l1_c fuel p0_s p1_v) (0,0)).bind fun u3 => match u3 with | (.inl u8) => some u8.1 | (.inr u9) => some (-1))
theorem slices_Index_int_int_le (fuel:Nat) (p0_s:(List Int)) (p1_v:Int) : LeO (slices_Index_int_int_c fuel p0_s p1_v) (slices_Index_int_int p0_s p1_v):=by
 unfold slices_Index_int_int_c slices_Index_int_int
 repeat' first
  | with_reducible apply LeO.bind
  | with_reducible apply slices_Index_int_int_l1_le
  | with_reducible apply LeO.guard
  | with_reducible apply LeO.ite
  | with_reducible apply LeO.loop
  | with_reducible apply LeO.fold
  | with_reducible exact LeO.refl _
  | (intro (u:Sum _ _); cases u <;> dsimp only)
  | intro _

def slices_Contains_int_int_c (fuel:Nat) (p0_s:(List Int)) (p1_v:Int) : Option Bool :=
 ((slices_Index_int_int_c fuel p0_s p1_v).bind fun y1 => some (decide (0 ≤ y1)))
theorem slices_Contains_int_int_le (fuel:Nat) (p0_s:(List Int)) (p1_v:Int) : LeO (slices_Contains_int_int_c fuel p0_s p1_v) (slices_Contains_int_int p0_s p1_v):=by
 unfold slices_Contains_int_int_c slices_Contains_int_int
 repeat' first
  | with_reducible apply LeO.bind
  | with_reducible apply slices_Index_int_int_le
  | with_reducible apply LeO.guard
  | with_reducible apply LeO.ite
  | with_reducible apply LeO.loop
  | with_reducible apply LeO.fold
  | with_reducible exact LeO.refl _
  | (intro (u:Sum _ _); cases u <;> dsimp only)
  | intro _

def recall_maybe_1_c (fuel:Nat) (p0_link:Int) (p1_h:Int) (cap0:(List Int)) (cap1:Int → Int → Option Bool) : Option Bool :=
 guardO ((0:Int) ≤ p0_link ∧ p0_link < (cap0.length:Int)) (((if ((rdL cap0 p0_link) == p1_h) = true then ((cap1 p0_link p1_h).bind fun y5 => some (y5)) else (some (false))).bind fun b3 => some b3))
theorem recall_maybe_1_le (fuel:Nat) (p0_link:Int) (p1_h:Int) (cap0:(List Int)) (cap1 cap1' : Int → Int → Option Bool) (hcap1:∀ x0 x1,LeO (cap1 x0 x1) (cap1' x0 x1)) : LeO (recall_maybe_1_c fuel p0_link p1_h cap0 cap1) (recall_maybe_1 p0_link p1_h cap0 cap1'):=by
 unfold recall_maybe_1_c recall_maybe_1
 repeat' first
  | with_reducible apply LeO.bind
  | with_reducible apply hcap1
  | with_reducible apply LeO.guard
  | with_reducible apply LeO.ite
  | with_reducible apply LeO.loop
  | with_reducible apply LeO.fold
  | with_reducible exact LeO.refl _
  | (intro (u:Sum _ _); cases u <;> dsimp only)
  | intro _

def recall_maybe_r1_c (fuel:Nat) (p0_l:TLineage) (p1_from:(List Int)) (p2_to:Int) (p3_so:Int → Int → Option Bool) (s24:Bool) (x25:(List Int)) : Option (Bool ⊕ Bool) :=
 ((recall_reach_c fuel p0_l p1_from (fun x28 x29 => recall_maybe_1_c fuel x28 x29 x25 p3_so)).bind fun y30 => guardO (rngB p2_to = true) ((if mgetV false y30 p2_to = true then some (.inr true) else some (.inl s24))))
theorem recall_maybe_r1_le (fuel:Nat) (p0_l:TLineage) (p1_from:(List Int)) (p2_to:Int) (p3_so p3_so' : Int → Int → Option Bool) (hp3_so:∀ x0 x1,LeO (p3_so x0 x1) (p3_so' x0 x1)) (s24:Bool) (x25:(List Int)) : LeO (recall_maybe_r1_c fuel p0_l p1_from p2_to p3_so s24 x25) (recall_maybe_r1 p0_l p1_from p2_to p3_so' s24 x25):=by
 unfold recall_maybe_r1_c recall_maybe_r1
 repeat' first
  | with_reducible apply LeO.bind
  | with_reducible apply hp3_so
  | with_reducible apply recall_maybe_1_le
  | with_reducible apply recall_reach_le
  | with_reducible apply LeO.guard
  | with_reducible apply LeO.ite
  | with_reducible apply LeO.loop
  | with_reducible apply LeO.fold
  | with_reducible exact LeO.refl _
  | (intro (u:Sum _ _); cases u <;> dsimp only)
  | intro _
def recall_maybe_c (fuel:Nat) (p0_l:TLineage) (p1_from:(List Int)) (p2_to:Int) (p3_so:Int → Int → Option Bool) : Option Bool :=
 ((recall_reach_c fuel p0_l p1_from p3_so).bind fun y6 => guardO (rngB p2_to = true) ((if (!(mgetV false y6 p2_to)) = true then some false else ((recall_cases_c fuel p0_l).bind fun y11 => (guardO (seqCases_ok p0_l) ((foldO (recall_maybe_r1_c fuel p0_l p1_from p2_to p3_so) (seqCases p0_l) false).bind fun u26 => match u26 with | .inl u37 => some false | .inr u38 => some u38))))))
theorem recall_maybe_le (fuel:Nat) (p0_l:TLineage) (p1_from:(List Int)) (p2_to:Int) (p3_so p3_so' : Int → Int → Option Bool) (hp3_so:∀ x0 x1,LeO (p3_so x0 x1) (p3_so' x0 x1)) : LeO (recall_maybe_c fuel p0_l p1_from p2_to p3_so) (recall_maybe p0_l p1_from p2_to p3_so'):=by
 unfold recall_maybe_c recall_maybe
 repeat' first
  | with_reducible apply LeO.bind
  | with_reducible apply hp3_so
  | with_reducible apply recall_cases_le
  | with_reducible apply recall_maybe_r1_le
  | with_reducible apply recall_reach_le
  | with_reducible apply LeO.guard
  | with_reducible apply LeO.ite
  | with_reducible apply LeO.loop
  | with_reducible apply LeO.fold
  | with_reducible exact LeO.refl _
  | (intro (u:Sum _ _); cases u <;> dsimp only)
  | intro _

def recall_isCut_1_c (fuel:Nat) (p0_link:Int) (p1_h:Int) (cap0:(List (Int × Bool))) (cap1:TLineage) : Option Bool :=
 guardO ((0:Int) ≤ p0_link ∧ p0_link < (cap1.fClaims.length:Int)) (guardO (rngB ((rdL cap1.fClaims p0_link).fID) = true) (some (!(mgetV false cap0 ((rdL cap1.fClaims p0_link).fID)))))
theorem recall_isCut_1_le (fuel:Nat) (p0_link:Int) (p1_h:Int) (cap0:(List (Int × Bool))) (cap1:TLineage) : LeO (recall_isCut_1_c fuel p0_link p1_h cap0 cap1) (recall_isCut_1 p0_link p1_h cap0 cap1):=by
 unfold recall_isCut_1_c recall_isCut_1
 repeat' first
  | with_reducible first | apply LeO.bind | apply LeO.guard | apply LeO.ite | apply LeO.loop | apply LeO.fold | exact LeO.refl _
  | (intro (u:Sum _ _); cases u <;> dsimp only)
  | intro _

def recall_isCut_c (fuel:Nat) (p0_l:TLineage) (p1_from:(List Int)) (p2_to:Int) (p3_cut:(List (Int × Bool))) : Option Bool :=
 ((recall_maybe_c fuel p0_l p1_from p2_to (fun x3 x4 => recall_isCut_1_c fuel x3 x4 p3_cut p0_l)).bind fun y5 => some (!y5))
theorem recall_isCut_le (fuel:Nat) (p0_l:TLineage) (p1_from:(List Int)) (p2_to:Int) (p3_cut:(List (Int × Bool))) : LeO (recall_isCut_c fuel p0_l p1_from p2_to p3_cut) (recall_isCut p0_l p1_from p2_to p3_cut):=by
 unfold recall_isCut_c recall_isCut
 repeat' first
  | with_reducible apply LeO.bind
  | with_reducible apply recall_isCut_1_le
  | with_reducible apply recall_maybe_le
  | with_reducible apply LeO.guard
  | with_reducible apply LeO.ite
  | with_reducible apply LeO.loop
  | with_reducible apply LeO.fold
  | with_reducible exact LeO.refl _
  | (intro (u:Sum _ _); cases u <;> dsimp only)
  | intro _

def recall_Cut_l1_c (fuel:Nat) (p0_l:TLineage) (s11:(Int × (List (Int × Bool)))) : Option ((Int × (List (Int × Bool))) ⊕ (Int × (List (Int × Bool)))) :=
 (if decide (s11.1 < (p0_l.fClaims.length:Int)) = true then guardO ((0:Int) ≤ s11.1 ∧ s11.1 < (p0_l.fClaims.length:Int)) (guardO (rngB ((rdL p0_l.fClaims s11.1).fID) = true ∧ List.length s11.2 < 1000000) (some (.inl (w64 (s11.1 + 1),(((rdL p0_l.fClaims s11.1).fID,true) :: s11.2))))) else some (.inr (s11.1,s11.2)))
theorem recall_Cut_l1_le (fuel:Nat) (p0_l:TLineage) (s11:(Int × (List (Int × Bool)))) : LeO (recall_Cut_l1_c fuel p0_l s11) (recall_Cut_l1 p0_l s11):=by
 unfold recall_Cut_l1_c recall_Cut_l1
 repeat' first
  | with_reducible first | apply LeO.bind | apply LeO.guard | apply LeO.ite | apply LeO.loop | apply LeO.fold | exact LeO.refl _
  | (intro (u:Sum _ _); cases u <;> dsimp only)
  | intro _
def recall_Cut_l2_c (fuel:Nat) (p0_l:TLineage) (p1_from:(List Int)) (p2_to:Int) (y18:(List Int)) (s26:(Int × (List (Int × Bool)))) : Option ((Int × (List (Int × Bool))) ⊕ (Int × (List (Int × Bool)))) :=
 (if decide (s26.1 < (y18.length:Int)) = true then guardO ((0:Int) ≤ s26.1 ∧ s26.1 < (y18.length:Int)) (guardO (rngB (rdL y18 s26.1) = true ∧ List.length s26.2 < 1000000) (((recall_isCut_c fuel p0_l p1_from p2_to (((rdL y18 s26.1),false) :: s26.2)).bind fun y31 => (if (!y31) = true then guardO (rngB (rdL y18 s26.1) = true ∧ List.length (((rdL y18 s26.1),false) :: s26.2) < 1000000) (some (.inl (w64 (s26.1 + 1),(((rdL y18 s26.1),true) :: (((rdL y18 s26.1),false) :: s26.2))))) else some (.inl (w64 (s26.1 + 1),(((rdL y18 s26.1),false) :: s26.2))))))) else some (.inr (s26.1,s26.2)))
theorem recall_Cut_l2_le (fuel:Nat) (p0_l:TLineage) (p1_from:(List Int)) (p2_to:Int) (y18:(List Int)) (s26:(Int × (List (Int × Bool)))) : LeO (recall_Cut_l2_c fuel p0_l p1_from p2_to y18 s26) (recall_Cut_l2 p0_l p1_from p2_to y18 s26):=by
 unfold recall_Cut_l2_c recall_Cut_l2
 repeat' first
  | with_reducible apply LeO.bind
  | with_reducible apply recall_isCut_le
  | with_reducible apply LeO.guard
  | with_reducible apply LeO.ite
  | with_reducible apply LeO.loop
  | with_reducible apply LeO.fold
  | with_reducible exact LeO.refl _
  | (intro (u:Sum _ _); cases u <;> dsimp only)
  | intro _
def recall_Cut_c (fuel:Nat) (p0_l:TLineage) (p1_from:(List Int)) (p2_to:Int) : Option ((List Int) × Int) :=
 ((recall_askedTo_c fuel p0_l p1_from p2_to).bind fun y2 => (if (y2 != 0) = true then some ([],y2) else ((slices_Contains_int_int_c fuel p1_from p2_to).bind fun y5 => (if y5 = true then some ([],5) else ((loopF fuel (recall_Cut_l1_c fuel p0_l) (0,[])).bind fun u12 => ((recall_listed u12.2).bind fun y18 => ((loopF fuel (recall_Cut_l2_c fuel p0_l p1_from p2_to y18) (0,u12.2)).bind fun u27 => ((recall_listed u27.2).bind fun y36 => some (y36,0)))))))))
theorem recall_Cut_le (fuel:Nat) (p0_l:TLineage) (p1_from:(List Int)) (p2_to:Int) : LeO (recall_Cut_c fuel p0_l p1_from p2_to) (recall_Cut p0_l p1_from p2_to):=by
 unfold recall_Cut_c recall_Cut
 repeat' first
  | with_reducible apply LeO.bind
  | with_reducible apply recall_Cut_l1_le
  | with_reducible apply recall_Cut_l2_le
  | with_reducible apply recall_askedTo_le
  | with_reducible apply slices_Contains_int_int_le
  | with_reducible apply LeO.guard
  | with_reducible apply LeO.ite
  | with_reducible apply LeO.loop
  | with_reducible apply LeO.fold
  | with_reducible exact LeO.refl _
  | (intro (u:Sum _ _); cases u <;> dsimp only)
  | intro _

def calxlaw09_Example_c (fuel:Nat)  : Option TLineage :=
 some (TLineage.mk [(TNode.mk 1 0 0),(TNode.mk 2 0 0),(TNode.mk 3 3 0),(TNode.mk 4 3 0),(TNode.mk 5 9 10),(TNode.mk 6 9 7)] [(TClaim.mk 11 [(THop.mk 1 3)]),(TClaim.mk 12 [(THop.mk 1 4),(THop.mk 2 4)]),(TClaim.mk 13 [(THop.mk 3 5)]),(TClaim.mk 14 [(THop.mk 4 5),(THop.mk 4 6)])])
theorem calxlaw09_Example_le (fuel:Nat) : LeO (calxlaw09_Example_c fuel) (calxlaw09_Example):=by
 unfold calxlaw09_Example_c calxlaw09_Example
 repeat' first
  | with_reducible first | apply LeO.bind | apply LeO.guard | apply LeO.ite | apply LeO.loop | apply LeO.fold | exact LeO.refl _
  | (intro (u:Sum _ _); cases u <;> dsimp only)
  | intro _

def recall_anyOption_c (fuel:Nat) (p0_link:Int) (p1_h:Int) : Option Bool :=
 some true
theorem recall_anyOption_le (fuel:Nat) (p0_link:Int) (p1_h:Int) : LeO (recall_anyOption_c fuel p0_link p1_h) (recall_anyOption p0_link p1_h):=by
 unfold recall_anyOption_c recall_anyOption
 repeat' first
  | with_reducible first | apply LeO.bind | apply LeO.guard | apply LeO.ite | apply LeO.loop | apply LeO.fold | exact LeO.refl _
  | (intro (u:Sum _ _); cases u <;> dsimp only)
  | intro _

def recall_Hangs_1_c (fuel:Nat) (p0_link:Int) (p1_h:Int) (cap0:Int) : Option Bool :=
 some (p0_link != cap0)
theorem recall_Hangs_1_le (fuel:Nat) (p0_link:Int) (p1_h:Int) (cap0:Int) : LeO (recall_Hangs_1_c fuel p0_link p1_h cap0) (recall_Hangs_1 p0_link p1_h cap0):=by
 unfold recall_Hangs_1_c recall_Hangs_1
 repeat' first
  | with_reducible first | apply LeO.bind | apply LeO.guard | apply LeO.ite | apply LeO.loop | apply LeO.fold | exact LeO.refl _
  | (intro (u:Sum _ _); cases u <;> dsimp only)
  | intro _

def recall_Hangs_l1_c (fuel:Nat) (p0_l:TLineage) (p1_from:(List Int)) (p2_to:Int) (s12:(Int × (List Int))) : Option ((Int × (List Int)) ⊕ (Int × (List Int))) :=
 (if decide (s12.1 < (p0_l.fClaims.length:Int)) = true then guardO ((0:Int) ≤ s12.1 ∧ s12.1 < (p0_l.fClaims.length:Int)) (((recall_maybe_c fuel p0_l p1_from p2_to (fun x18 x19 => recall_Hangs_1_c fuel x18 x19 s12.1)).bind fun y20 => (if (!y20) = true then guardO (s12.2.length + 1 ≤ 1000000000) (some (.inl (w64 (s12.1 + 1),(s12.2 ++ [(rdL p0_l.fClaims s12.1).fID])))) else some (.inl (w64 (s12.1 + 1),s12.2))))) else some (.inr (s12.1,s12.2)))
theorem recall_Hangs_l1_le (fuel:Nat) (p0_l:TLineage) (p1_from:(List Int)) (p2_to:Int) (s12:(Int × (List Int))) : LeO (recall_Hangs_l1_c fuel p0_l p1_from p2_to s12) (recall_Hangs_l1 p0_l p1_from p2_to s12):=by
 unfold recall_Hangs_l1_c recall_Hangs_l1
 repeat' first
  | with_reducible apply LeO.bind
  | with_reducible apply recall_Hangs_1_le
  | with_reducible apply recall_maybe_le
  | with_reducible apply LeO.guard
  | with_reducible apply LeO.ite
  | with_reducible apply LeO.loop
  | with_reducible apply LeO.fold
  | with_reducible exact LeO.refl _
  | (intro (u:Sum _ _); cases u <;> dsimp only)
  | intro _
def recall_Hangs_c (fuel:Nat) (p0_l:TLineage) (p1_from:(List Int)) (p2_to:Int) : Option ((List Int) × Int) :=
 ((recall_askedTo_c fuel p0_l p1_from p2_to).bind fun y2 => (if (y2 != 0) = true then some ([],y2) else ((recall_maybe_c fuel p0_l p1_from p2_to (fun x5 x6 => recall_anyOption_c fuel x5 x6)).bind fun y7 => (if (!y7) = true then some ([],5) else ((loopF fuel (recall_Hangs_l1_c fuel p0_l p1_from p2_to) (0,([]:List Int))).bind fun u13 => ((slices_Sort_int_int u13.2).bind fun y28 => some (y28,0)))))))
theorem recall_Hangs_le (fuel:Nat) (p0_l:TLineage) (p1_from:(List Int)) (p2_to:Int) : LeO (recall_Hangs_c fuel p0_l p1_from p2_to) (recall_Hangs p0_l p1_from p2_to):=by
 unfold recall_Hangs_c recall_Hangs
 repeat' first
  | with_reducible apply LeO.bind
  | with_reducible apply recall_Hangs_l1_le
  | with_reducible apply recall_anyOption_le
  | with_reducible apply recall_askedTo_le
  | with_reducible apply recall_maybe_le
  | with_reducible apply LeO.guard
  | with_reducible apply LeO.ite
  | with_reducible apply LeO.loop
  | with_reducible apply LeO.fold
  | with_reducible exact LeO.refl _
  | (intro (u:Sum _ _); cases u <;> dsimp only)
  | intro _

def recall_Gates_1_c (fuel:Nat) (p0_link:Int) (p1_h:Int) (cap0:TLineage) (cap1:TNode) : Option Bool :=
 guardO ((0:Int) ≤ p0_link ∧ p0_link < (cap0.fClaims.length:Int)) (guardO ((0:Int) ≤ p1_h ∧ p1_h < (((rdL cap0.fClaims p0_link).fOptions.length : Nat) : Int)) (some (((rdL ((rdL cap0.fClaims p0_link).fOptions) p1_h).fTo) != cap1.fID)))
theorem recall_Gates_1_le (fuel:Nat) (p0_link:Int) (p1_h:Int) (cap0:TLineage) (cap1:TNode) : LeO (recall_Gates_1_c fuel p0_link p1_h cap0 cap1) (recall_Gates_1 p0_link p1_h cap0 cap1):=by
 unfold recall_Gates_1_c recall_Gates_1
 repeat' first
  | with_reducible first | apply LeO.bind | apply LeO.guard | apply LeO.ite | apply LeO.loop | apply LeO.fold | exact LeO.refl _
  | (intro (u:Sum _ _); cases u <;> dsimp only)
  | intro _

def recall_Gates_l1_c (fuel:Nat) (p0_l:TLineage) (p1_from:(List Int)) (p2_to:Int) (s12:(Int × (List Int))) : Option ((Int × (List Int)) ⊕ (Int × (List Int))) :=
 (if decide (s12.1 < (p0_l.fNodes.length:Int)) = true then guardO ((0:Int) ≤ s12.1 ∧ s12.1 < (p0_l.fNodes.length:Int)) (((if (((rdL p0_l.fNodes s12.1).fID) == p2_to) = true then (some (true)) else ((slices_Contains_int_int_c fuel p1_from ((rdL p0_l.fNodes s12.1).fID)).bind fun y30 => some (y30))).bind fun b18 => (if b18 = true then some (.inl (w64 (s12.1 + 1),s12.2)) else ((recall_maybe_c fuel p0_l p1_from p2_to (fun x21 x22 => recall_Gates_1_c fuel x21 x22 p0_l (TNode.mk ((rdL p0_l.fNodes s12.1).fID) ((rdL p0_l.fNodes s12.1).fLevel) ((rdL p0_l.fNodes s12.1).fCost)))).bind fun y23 => (if (!y23) = true then guardO (s12.2.length + 1 ≤ 1000000000) (some (.inl (w64 (s12.1 + 1),(s12.2 ++ [(rdL p0_l.fNodes s12.1).fID])))) else some (.inl (w64 (s12.1 + 1),s12.2))))))) else some (.inr (s12.1,s12.2)))
theorem recall_Gates_l1_le (fuel:Nat) (p0_l:TLineage) (p1_from:(List Int)) (p2_to:Int) (s12:(Int × (List Int))) : LeO (recall_Gates_l1_c fuel p0_l p1_from p2_to s12) (recall_Gates_l1 p0_l p1_from p2_to s12):=by
 unfold recall_Gates_l1_c recall_Gates_l1
 repeat' first
  | with_reducible apply LeO.bind
  | with_reducible apply recall_Gates_1_le
  | with_reducible apply recall_maybe_le
  | with_reducible apply slices_Contains_int_int_le
  | with_reducible apply LeO.guard
  | with_reducible apply LeO.ite
  | with_reducible apply LeO.loop
  | with_reducible apply LeO.fold
  | with_reducible exact LeO.refl _
  | (intro (u:Sum _ _); cases u <;> dsimp only)
  | intro _
def recall_Gates_c (fuel:Nat) (p0_l:TLineage) (p1_from:(List Int)) (p2_to:Int) : Option ((List Int) × Int) :=
 ((recall_askedTo_c fuel p0_l p1_from p2_to).bind fun y2 => (if (y2 != 0) = true then some ([],y2) else ((recall_maybe_c fuel p0_l p1_from p2_to (fun x5 x6 => recall_anyOption_c fuel x5 x6)).bind fun y7 => (if (!y7) = true then some ([],5) else ((loopF fuel (recall_Gates_l1_c fuel p0_l p1_from p2_to) (0,([]:List Int))).bind fun u13 => ((slices_Sort_int_int u13.2).bind fun y33 => some (y33,0)))))))
theorem recall_Gates_le (fuel:Nat) (p0_l:TLineage) (p1_from:(List Int)) (p2_to:Int) : LeO (recall_Gates_c fuel p0_l p1_from p2_to) (recall_Gates p0_l p1_from p2_to):=by
 unfold recall_Gates_c recall_Gates
 repeat' first
  | with_reducible apply LeO.bind
  | with_reducible apply recall_Gates_l1_le
  | with_reducible apply recall_anyOption_le
  | with_reducible apply recall_askedTo_le
  | with_reducible apply recall_maybe_le
  | with_reducible apply LeO.guard
  | with_reducible apply LeO.ite
  | with_reducible apply LeO.loop
  | with_reducible apply LeO.fold
  | with_reducible exact LeO.refl _
  | (intro (u:Sum _ _); cases u <;> dsimp only)
  | intro _

def recall_level_l1_c (fuel:Nat) (p0_l:TLineage) (p1_n:Int) (s5:(Int × (List (Int × Bool)))) : Option ((Int × (List (Int × Bool))) ⊕ (Int × (List (Int × Bool)))) :=
 (if decide (s5.1 < (p0_l.fNodes.length:Int)) = true then guardO ((0:Int) ≤ s5.1 ∧ s5.1 < (p0_l.fNodes.length:Int)) ((if (((rdL p0_l.fNodes s5.1).fLevel) == p1_n) = true then guardO (rngB ((rdL p0_l.fNodes s5.1).fID) = true ∧ List.length s5.2 < 1000000) (some (.inl (w64 (s5.1 + 1),(((rdL p0_l.fNodes s5.1).fID,true) :: s5.2)))) else some (.inl (w64 (s5.1 + 1),s5.2)))) else some (.inr (s5.1,s5.2)))
theorem recall_level_l1_le (fuel:Nat) (p0_l:TLineage) (p1_n:Int) (s5:(Int × (List (Int × Bool)))) : LeO (recall_level_l1_c fuel p0_l p1_n s5) (recall_level_l1 p0_l p1_n s5):=by
 unfold recall_level_l1_c recall_level_l1
 repeat' first
  | with_reducible first | apply LeO.bind | apply LeO.guard | apply LeO.ite | apply LeO.loop | apply LeO.fold | exact LeO.refl _
  | (intro (u:Sum _ _); cases u <;> dsimp only)
  | intro _
def recall_level_c (fuel:Nat) (p0_l:TLineage) (p1_n:Int) : Option (List (Int × Bool)) :=
 ((loopF fuel (recall_level_l1_c fuel p0_l p1_n) (0,[])).bind fun u6 => some u6.2)
theorem recall_level_le (fuel:Nat) (p0_l:TLineage) (p1_n:Int) : LeO (recall_level_c fuel p0_l p1_n) (recall_level p0_l p1_n):=by
 unfold recall_level_c recall_level
 repeat' first
  | with_reducible apply LeO.bind
  | with_reducible apply recall_level_l1_le
  | with_reducible apply LeO.guard
  | with_reducible apply LeO.ite
  | with_reducible apply LeO.loop
  | with_reducible apply LeO.fold
  | with_reducible exact LeO.refl _
  | (intro (u:Sum _ _); cases u <;> dsimp only)
  | intro _

def recall_charges_c (fuel:Nat) (p0_l:TLineage) : Option (List Int) :=
 ((recall_level_c fuel p0_l 0).bind fun y2 => ((recall_listed y2).bind fun y5 => some y5))
theorem recall_charges_le (fuel:Nat) (p0_l:TLineage) : LeO (recall_charges_c fuel p0_l) (recall_charges p0_l):=by
 unfold recall_charges_c recall_charges
 repeat' first
  | with_reducible apply LeO.bind
  | with_reducible apply recall_level_le
  | with_reducible apply LeO.guard
  | with_reducible apply LeO.ite
  | with_reducible apply LeO.loop
  | with_reducible apply LeO.fold
  | with_reducible exact LeO.refl _
  | (intro (u:Sum _ _); cases u <;> dsimp only)
  | intro _

def recall_Origins_l1_c (fuel:Nat) (p0_l:TLineage) (p1_to:Int) (y8:(List Int)) (s16:(Int × (List Int) × (List Int))) : Option ((Int × (List Int) × (List Int)) ⊕ (Int × (List Int) × (List Int))) :=
 (if decide (s16.1 < (y8.length:Int)) = true then guardO ((0:Int) ≤ s16.1 ∧ s16.1 < (y8.length:Int)) (((recall_sure_c fuel p0_l [(rdL y8 s16.1)]).bind fun y21 => guardO (rngB p1_to = true) ((if mgetV false y21 p1_to = true then guardO (s16.2.1.length + 1 ≤ 1000000000) (((recall_possible_c fuel p0_l [(rdL y8 s16.1)]).bind fun y31 => guardO (rngB p1_to = true) ((if mgetV false y31 p1_to = true then guardO (s16.2.2.length + 1 ≤ 1000000000) (some (.inl (w64 (s16.1 + 1),(s16.2.1 ++ [(rdL y8 s16.1)]),(s16.2.2 ++ [(rdL y8 s16.1)])))) else some (.inl (w64 (s16.1 + 1),(s16.2.1 ++ [(rdL y8 s16.1)]),s16.2.2)))))) else ((recall_possible_c fuel p0_l [(rdL y8 s16.1)]).bind fun y41 => guardO (rngB p1_to = true) ((if mgetV false y41 p1_to = true then guardO (s16.2.2.length + 1 ≤ 1000000000) (some (.inl (w64 (s16.1 + 1),s16.2.1,(s16.2.2 ++ [(rdL y8 s16.1)])))) else some (.inl (w64 (s16.1 + 1),s16.2.1,s16.2.2))))))))) else some (.inr (s16.1,s16.2.1,s16.2.2)))
theorem recall_Origins_l1_le (fuel:Nat) (p0_l:TLineage) (p1_to:Int) (y8:(List Int)) (s16:(Int × (List Int) × (List Int))) : LeO (recall_Origins_l1_c fuel p0_l p1_to y8 s16) (recall_Origins_l1 p0_l p1_to y8 s16):=by
 unfold recall_Origins_l1_c recall_Origins_l1
 repeat' first
  | with_reducible apply LeO.bind
  | with_reducible apply recall_possible_le
  | with_reducible apply recall_sure_le
  | with_reducible apply LeO.guard
  | with_reducible apply LeO.ite
  | with_reducible apply LeO.loop
  | with_reducible apply LeO.fold
  | with_reducible exact LeO.refl _
  | (intro (u:Sum _ _); cases u <;> dsimp only)
  | intro _
def recall_Origins_c (fuel:Nat) (p0_l:TLineage) (p1_to:Int) : Option ((List Int) × (List Int) × Int) :=
 ((recall_Check_c fuel p0_l).bind fun y2 => (if (y2 != 0) = true then some ([],[],y2) else ((recall_nodeOf_c fuel p0_l p1_to).bind fun y5 => (if decide (y5 < 0) = true then some ([],[],5) else ((recall_charges_c fuel p0_l).bind fun y8 => ((loopF fuel (recall_Origins_l1_c fuel p0_l p1_to y8) (0,([]:List Int),([]:List Int))).bind fun u17 => some (u17.2.1,u17.2.2,0)))))))
theorem recall_Origins_le (fuel:Nat) (p0_l:TLineage) (p1_to:Int) : LeO (recall_Origins_c fuel p0_l p1_to) (recall_Origins p0_l p1_to):=by
 unfold recall_Origins_c recall_Origins
 repeat' first
  | with_reducible apply LeO.bind
  | with_reducible apply recall_Check_le
  | with_reducible apply recall_Origins_l1_le
  | with_reducible apply recall_charges_le
  | with_reducible apply recall_nodeOf_le
  | with_reducible apply LeO.guard
  | with_reducible apply LeO.ite
  | with_reducible apply LeO.loop
  | with_reducible apply LeO.fold
  | with_reducible exact LeO.refl _
  | (intro (u:Sum _ _); cases u <;> dsimp only)
  | intro _

def calxlaw09_head_c (fuel:Nat)  : Option Bool :=
 ((calxlaw09_Example_c fuel).bind fun y1 => ((recall_Cases_c fuel y1).bind fun y20 => ((recall_Surely_c fuel y1 [1]).bind fun y23 => ((recall_Possibly_c fuel y1 [2]).bind fun y30 => ((recall_Hangs_c fuel y1 [1] 6).bind fun y37 => ((recall_Gates_c fuel y1 [1] 6).bind fun y44 => ((recall_Cut_c fuel y1 [1] 5).bind fun y51 => ((recall_Share_c fuel y1 [2] 5).bind fun y58 => ((recall_Recall_c fuel y1 [1] false).bind fun y62 => ((recall_Ask_c fuel y1 [1]).bind fun y69 => ((recall_Origins_c fuel y1 5).bind fun y71 => (if ((((((((((y20.2 != 0) || (y23.2 != 0)) || (y30.2 != 0)) || (y37.2 != 0)) || (y44.2 != 0)) || (y51.2 != 0)) || (y58.2 != 0)) || (y62.2.2 != 0)) || (y69.2.2 != 0)) || (y71.2.2 != 0)) = true then some false else ((ref09_SameInts_c fuel y23.1 [1,3,5]).bind fun y92 => ((if y92 = true then ((ref09_SameInts_c fuel y30.1 [2,4,5,6]).bind fun y137 => some (y137)) else (some (false))).bind fun b95 => ((if b95 = true then ((ref09_SameInts_c fuel y37.1 [12,14]).bind fun y134 => some (y134)) else (some (false))).bind fun b98 => ((if b98 = true then ((ref09_SameInts_c fuel y44.1 [4]).bind fun y131 => some (y131)) else (some (false))).bind fun b101 => ((ref09_SameInts_c fuel y51.1 [13,14]).bind fun y104 => ((if y104 = true then ((ref09_SameInts_c fuel y62.1 [5,6]).bind fun y128 => some (y128)) else (some (false))).bind fun b107 => ((if b107 = true then ((ref09_SameInts_c fuel y71.1 [1]).bind fun y125 => some (y125)) else (some (false))).bind fun b110 => ((if b110 = true then ((ref09_SameInts_c fuel y71.2.1 [1,2]).bind fun y122 => some (y122)) else (some (false))).bind fun b113 => some ((((((b101 && b113) && (y20.1 == 4)) && ((y58.1.fNum == 1) && (y58.1.fDen == 4))) && (y62.2.1 == 17)) && (y69.1 == 12)) && (y69.2.1 == 7))))))))))))))))))))))
theorem calxlaw09_head_le (fuel:Nat) : LeO (calxlaw09_head_c fuel) (calxlaw09_head):=by
 unfold calxlaw09_head_c calxlaw09_head
 repeat' first
  | with_reducible apply LeO.bind
  | with_reducible apply calxlaw09_Example_le
  | with_reducible apply ref09_SameInts_le
  | with_reducible apply recall_Ask_le
  | with_reducible apply recall_Cases_le
  | with_reducible apply recall_Cut_le
  | with_reducible apply recall_Gates_le
  | with_reducible apply recall_Hangs_le
  | with_reducible apply recall_Origins_le
  | with_reducible apply recall_Possibly_le
  | with_reducible apply recall_Recall_le
  | with_reducible apply recall_Share_le
  | with_reducible apply recall_Surely_le
  | with_reducible apply LeO.guard
  | with_reducible apply LeO.ite
  | with_reducible apply LeO.loop
  | with_reducible apply LeO.fold
  | with_reducible exact LeO.refl _
  | (intro (u:Sum _ _); cases u <;> dsimp only)
  | intro _

end Go.Proofs.Ytbblpokfbmekfaa
