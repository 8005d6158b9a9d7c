import Derived.Test.YtbblpokfbmekfaaGreatP
set_option maxRecDepth 100000
set_option maxHeartbeats 4000000
set_option linter.unusedVariables false
namespace Go.Proofs.YtbblpokfbmekfaaGreat
def cY (f:Nat) (p0:(List TN)) (p1:TN→Option Bool) (s2:(Int × Int)):Option ((Int × Int) ⊕ ((Int × Int) ⊕ (Int × Int))) :=
 (if decide (s2.2<(p0.length:Int))=true then ac ((0:Int)≤s2.2∧s2.2<(p0.length:Int)) (((p1 (TN.mk ((rdL p0 s2.2).fID) ((rdL p0 s2.2).fLevel) ((rdL p0 s2.2).fCost))).bind fun y6=>(if y6=true then some (.inr (.inl (s2.2,s2.2)))else some (.inl (s2.1,w64 (s2.2+1))))))else some (.inr (.inr (s2.1,s2.2))))
theorem iV (f:Nat) (p0:(List TN)) (p1 p1':TN→Option Bool) (hp1_f:∀x,LeO (p1 x) (p1' x)) (s2:(Int × Int)):LeO (cY f p0 p1 s2) (aQ p0 p1' s2):=by
 unfold cY aQ
 repeat' first
  | with_reducible first|apply LeO.bind|apply hp1_f|apply LeO.guard|apply LeO.ite|apply LeO.loop|apply LeO.fold|exact LeO.refl _
  | (intro(u:Sum _ _);cases u <;> dsimp only)
  | intro _
def dC (f:Nat) (p0:(List TN)) (p1:TN→Option Bool):Option Int :=
 ((gJ f (cY f p0 p1) (0,0)).bind fun u3=>match u3 with|(.inl u10)=>some u10.1|(.inr u11)=>some (-1))
theorem j3 (f:Nat) (p0:(List TN)) (p1 p1':TN→Option Bool) (hp1_f:∀x,LeO (p1 x) (p1' x)):LeO (dC f p0 p1) (be p0 p1'):=by
 unfold dC be
 repeat' first
  | with_reducible first|apply LeO.bind|apply hp1_f|apply iV|apply LeO.guard|apply LeO.ite|apply LeO.loop|apply LeO.fold|exact LeO.refl _
  | (intro(u:Sum _ _);cases u <;> dsimp only)
  | intro _
def je (f:Nat) (p0:TN) (cap0:Int):Option Bool :=
 some (p0.fID==cap0)
theorem oG (f:Nat) (p0:TN) (cap0:Int):LeO (je f p0 cap0) (dR p0 cap0):=by
 unfold je dR
 repeat' first
  | with_reducible first|apply LeO.bind|apply LeO.guard|apply LeO.ite|apply LeO.loop|apply LeO.fold|exact LeO.refl _
  | (intro(u:Sum _ _);cases u <;> dsimp only)
  | intro _
def dq (f:Nat) (p0:TL) (p1:Int):Option Int :=
 ((dC f p0.fNo (fun x3=>je f x3 p1)).bind fun y4=>some y4)
theorem fw (f:Nat) (p0:TL) (p1:Int):LeO (dq f p0 p1) (bV p0 p1):=by
 unfold dq bV
 repeat' first
  | with_reducible first|apply LeO.bind|apply oG|apply j3|apply LeO.guard|apply LeO.ite|apply LeO.loop|apply LeO.fold|exact LeO.refl _
  | (intro(u:Sum _ _);cases u <;> dsimp only)
  | intro _
def cL (f:Nat) (p0:(List TC)) (p1:TC→Option Bool) (s2:(Int × Int)):Option ((Int × Int) ⊕ ((Int × Int) ⊕ (Int × Int))) :=
 (if decide (s2.2<(p0.length:Int))=true then ac ((0:Int)≤s2.2∧s2.2<(p0.length:Int)) (((p1 (TC.mk ((rdL p0 s2.2).fID) ((rdL p0 s2.2).fO))).bind fun y6=>(if y6=true then some (.inr (.inl (s2.2,s2.2)))else some (.inl (s2.1,w64 (s2.2+1))))))else some (.inr (.inr (s2.1,s2.2))))
theorem il (f:Nat) (p0:(List TC)) (p1 p1':TC→Option Bool) (hp1_f:∀x,LeO (p1 x) (p1' x)) (s2:(Int × Int)):LeO (cL f p0 p1 s2) (aN p0 p1' s2):=by
 unfold cL aN
 repeat' first
  | with_reducible first|apply LeO.bind|apply hp1_f|apply LeO.guard|apply LeO.ite|apply LeO.loop|apply LeO.fold|exact LeO.refl _
  | (intro(u:Sum _ _);cases u <;> dsimp only)
  | intro _
def dc (f:Nat) (p0:(List TC)) (p1:TC→Option Bool):Option Int :=
 ((gJ f (cL f p0 p1) (0,0)).bind fun u3=>match u3 with|(.inl u10)=>some u10.1|(.inr u11)=>some (-1))
theorem i9 (f:Nat) (p0:(List TC)) (p1 p1':TC→Option Bool) (hp1_f:∀x,LeO (p1 x) (p1' x)):LeO (dc f p0 p1) (aR p0 p1'):=by
 unfold dc aR
 repeat' first
  | with_reducible first|apply LeO.bind|apply hp1_f|apply il|apply LeO.guard|apply LeO.ite|apply LeO.loop|apply LeO.fold|exact LeO.refl _
  | (intro(u:Sum _ _);cases u <;> dsimp only)
  | intro _
def jq (f:Nat) (p0:TC) (cap0:Int):Option Bool :=
 some (p0.fID==cap0)
theorem n6 (f:Nat) (p0:TC) (cap0:Int):LeO (jq f p0 cap0) (dT p0 cap0):=by
 unfold jq dT
 repeat' first
  | with_reducible first|apply LeO.bind|apply LeO.guard|apply LeO.ite|apply LeO.loop|apply LeO.fold|exact LeO.refl _
  | (intro(u:Sum _ _);cases u <;> dsimp only)
  | intro _
def kM (f:Nat) (p0:TL) (p1:Int):Option Int :=
 ((dc f p0.fC (fun x3=>jq f x3 p1)).bind fun y4=>some y4)
theorem pE (f:Nat) (p0:TL) (p1:Int):LeO (kM f p0 p1) (c9 p0 p1):=by
 unfold kM c9
 repeat' first
  | with_reducible first|apply LeO.bind|apply n6|apply i9|apply LeO.guard|apply LeO.ite|apply LeO.loop|apply LeO.fold|exact LeO.refl _
  | (intro(u:Sum _ _);cases u <;> dsimp only)
  | intro _
def dL (f:Nat) (p0:Int) (p1:Int) (p2:Int):Option Bool :=
 some ((decide (p1≤p0))&&(decide (p0≤p2)))
theorem j2 (f:Nat) (p0:Int) (p1:Int) (p2:Int):LeO (dL f p0 p1 p2) (co p0 p1 p2):=by
 unfold dL co
 repeat' first
  | with_reducible first|apply LeO.bind|apply LeO.guard|apply LeO.ite|apply LeO.loop|apply LeO.fold|exact LeO.refl _
  | (intro(u:Sum _ _);cases u <;> dsimp only)
  | intro _
def eF (f:Nat) (p0:(List TH)) (p1:TH) (s3:(Int × Int)):Option ((Int × Int) ⊕ ((Int × Int) ⊕ (Int × Int))) :=
 (if decide (s3.2<(p0.length:Int))=true then ac ((0:Int)≤s3.2∧s3.2<(p0.length:Int)) ((if((p1.fFrom==(rdL p0 s3.2).fFrom)&&(p1.fTo==(rdL p0 s3.2).fTo))=true then some (.inr (.inl (s3.2,s3.2)))else some (.inl (s3.1,w64 (s3.2+1)))))else some (.inr (.inr (s3.1,s3.2))))
theorem lg (f:Nat) (p0:(List TH)) (p1:TH) (s3:(Int × Int)):LeO (eF f p0 p1 s3) (bi p0 p1 s3):=by
 unfold eF bi
 repeat' first
  | with_reducible first|apply LeO.bind|apply LeO.guard|apply LeO.ite|apply LeO.loop|apply LeO.fold|exact LeO.refl _
  | (intro(u:Sum _ _);cases u <;> dsimp only)
  | intro _
def fY (f:Nat) (p0:(List TH)) (p1:TH):Option Int :=
 ((gJ f (eF f p0 p1) (0,0)).bind fun u4=>match u4 with|(.inl u9)=>some u9.1|(.inr u10)=>some (-1))
theorem me (f:Nat) (p0:(List TH)) (p1:TH):LeO (fY f p0 p1) (bY p0 p1):=by
 unfold fY bY
 repeat' first
  | with_reducible first|apply LeO.bind|apply lg|apply LeO.guard|apply LeO.ite|apply LeO.loop|apply LeO.fold|exact LeO.refl _
  | (intro(u:Sum _ _);cases u <;> dsimp only)
  | intro _
def eK (f:Nat) (p0:(List TH)) (p1:TH):Option Bool :=
 ((fY f p0 p1).bind fun y2=>some (decide (0≤y2)))
theorem le (f:Nat) (p0:(List TH)) (p1:TH):LeO (eK f p0 p1) (bD p0 p1):=by
 unfold eK bD
 repeat' first
  | with_reducible first|apply LeO.bind|apply me|apply LeO.guard|apply LeO.ite|apply LeO.loop|apply LeO.fold|exact LeO.refl _
  | (intro(u:Sum _ _);cases u <;> dsimp only)
  | intro _
def gX (f:Nat) (p0:TL) (p1:(List TH)) (s6:(Bool × Int)):Option ((Bool × Int) ⊕ ((Bool × Int) ⊕ (Bool × Int))) :=
 (if decide (s6.2<(p1.length:Int))=true then ac ((0:Int)≤s6.2∧s6.2<(p1.length:Int)) (((dq f p0 ((rdL p1 s6.2).fFrom)).bind fun y11=>((dq f p0 ((rdL p1 s6.2).fTo)).bind fun y13=>((if((decide (y11<0))||(decide (y13<0)))=true then(some (true))else(ac ((0:Int)≤y11∧y11<(p0.fNo.length:Int)) (ac ((0:Int)≤y13∧y13<(p0.fNo.length:Int)) (some (decide ((rdL p0.fNo y13).fLevel≤(rdL p0.fNo y11).fLevel)))))).bind fun b17=>((if b17=true then(some (true))else(ac ((0:Int)≤s6.2∧s6.2≤(p1.length:Int)) (((eK f (p1.take (Int.toNat s6.2)) (TH.mk ((rdL p1 s6.2).fFrom) ((rdL p1 s6.2).fTo))).bind fun y24=>some (y24))))).bind fun b20=>(if b20=true then some (.inr (.inl (false,s6.2)))else some (.inl (s6.1,w64 (s6.2+1)))))))))else some (.inr (.inr (s6.1,s6.2))))
theorem m9 (f:Nat) (p0:TL) (p1:(List TH)) (s6:(Bool × Int)):LeO (gX f p0 p1 s6) (cw p0 p1 s6):=by
 unfold gX cw
 repeat' first
  | with_reducible first|apply LeO.bind|apply fw|apply le|apply LeO.guard|apply LeO.ite|apply LeO.loop|apply LeO.fold|exact LeO.refl _
  | (intro(u:Sum _ _);cases u <;> dsimp only)
  | intro _
def j5 (f:Nat) (p0:TL) (p1:(List TH)):Option Bool :=
 ((dL f (p1.length:Int) 1 4).bind fun y2=>(if(!y2)=true then some false else((gJ f (gX f p0 p1) (false,0)).bind fun u7=>match u7 with|(.inl u29)=>some u29.1|(.inr u30)=>some true)))
theorem pf (f:Nat) (p0:TL) (p1:(List TH)):LeO (j5 f p0 p1) (eO p0 p1):=by
 unfold j5 eO
 repeat' first
  | with_reducible first|apply LeO.bind|apply m9|apply j2|apply LeO.guard|apply LeO.ite|apply LeO.loop|apply LeO.fold|exact LeO.refl _
  | (intro(u:Sum _ _);cases u <;> dsimp only)
  | intro _
def jB (f:Nat) (p0:TL) (s5:(Int × Int)):Option ((Int × Int) ⊕ ((Int × Int) ⊕ (Int × Int))) :=
 (if decide (s5.2<(p0.fNo.length:Int))=true then ac ((0:Int)≤s5.2∧s5.2<(p0.fNo.length:Int)) (((dL f ((rdL p0.fNo s5.2).fID) 1 1099511627776).bind fun y10=>((if(!y10)=true then(some (true))else((dL f ((rdL p0.fNo s5.2).fLevel) 0 9).bind fun y24=>some ((!y24)))).bind fun b13=>((if b13=true then(some (true))else((dL f ((rdL p0.fNo s5.2).fCost) 0 1073741824).bind fun y22=>some ((!y22)))).bind fun b16=>(if b16=true then some (.inr (.inl (1,s5.2)))else((dq f p0 ((rdL p0.fNo s5.2).fID)).bind fun y19=>(if decide (y19<s5.2)=true then some (.inr (.inl (6,s5.2)))else some (.inl (s5.1,w64 (s5.2+1))))))))))else some (.inr (.inr (s5.1,s5.2))))
theorem nz (f:Nat) (p0:TL) (s5:(Int × Int)):LeO (jB f p0 s5) (dh p0 s5):=by
 unfold jB dh
 repeat' first
  | with_reducible first|apply LeO.bind|apply fw|apply j2|apply LeO.guard|apply LeO.ite|apply LeO.loop|apply LeO.fold|exact LeO.refl _
  | (intro(u:Sum _ _);cases u <;> dsimp only)
  | intro _
def jd (f:Nat) (p0:TL) (s30:(Int × Int × Int)):Option ((Int × Int × Int) ⊕ ((Int × Int × Int) ⊕ (Int × Int × Int))) :=
 (if decide (s30.2.2<(p0.fC.length:Int))=true then ac ((0:Int)≤s30.2.2∧s30.2.2<(p0.fC.length:Int)) (((dL f ((rdL p0.fC s30.2.2).fID) 1 1099511627776).bind fun y35=>((if(!y35)=true then(some (true))else((j5 f p0 ((rdL p0.fC s30.2.2).fO)).bind fun y44=>some ((!y44)))).bind fun b38=>(if b38=true then some (.inr (.inl (1,s30.2.1,s30.2.2)))else((kM f p0 ((rdL p0.fC s30.2.2).fID)).bind fun y41=>(if decide (y41<s30.2.2)=true then some (.inr (.inl (6,s30.2.1,s30.2.2)))else some (.inl (s30.1,min (w64 (s30.2.1*(((rdL p0.fC s30.2.2).fO.length:Nat):Int))) 4097,w64 (s30.2.2+1)))))))))else some (.inr (.inr (s30.1,s30.2.1,s30.2.2))))
theorem ow (f:Nat) (p0:TL) (s30:(Int × Int × Int)):LeO (jd f p0 s30) (di p0 s30):=by
 unfold jd di
 repeat' first
  | with_reducible first|apply LeO.bind|apply pE|apply pf|apply j2|apply LeO.guard|apply LeO.ite|apply LeO.loop|apply LeO.fold|exact LeO.refl _
  | (intro(u:Sum _ _);cases u <;> dsimp only)
  | intro _
def gO (f:Nat) (p0:TL):Option Int :=
 (if((decide (60<(p0.fNo.length:Int)))||(decide (80<(p0.fC.length:Int))))=true then some 2 else((gJ f (jB f p0) (0,0)).bind fun u6=>match u6 with|(.inl u27)=>some u27.1|(.inr u28)=>((gJ f (jd f p0) (u28.1,1,0)).bind fun u31=>match u31 with|(.inl u47)=>some u47.1|(.inr u48)=>(if decide (4096<u48.2.1)=true then some 2 else some 0))))
theorem ld (f:Nat) (p0:TL):LeO (gO f p0) (ce p0):=by
 unfold gO ce
 repeat' first
  | with_reducible first|apply LeO.bind|apply nz|apply ow|apply LeO.guard|apply LeO.ite|apply LeO.loop|apply LeO.fold|exact LeO.refl _
  | (intro(u:Sum _ _);cases u <;> dsimp only)
  | intro _
def iA (f:Nat) (p0:Int):Option Bool :=
 some (p0 !=p0)
theorem pN (f:Nat) (p0:Int):LeO (iA f p0) (c5 p0):=by
 unfold iA c5
 repeat' first
  | with_reducible first|apply LeO.bind|apply LeO.guard|apply LeO.ite|apply LeO.loop|apply LeO.fold|exact LeO.refl _
  | (intro(u:Sum _ _);cases u <;> dsimp only)
  | intro _
def jv (f:Nat) (p0:TL) (p1:Int) (s5:(Int × (List (Int × Bool)))):Option ((Int × (List (Int × Bool))) ⊕ (Int × (List (Int × Bool)))) :=
 (if decide (s5.1<(p0.fNo.length:Int))=true then ac ((0:Int)≤s5.1∧s5.1<(p0.fNo.length:Int)) ((if(((rdL p0.fNo s5.1).fLevel)==p1)=true then ac (dx ((rdL p0.fNo s5.1).fID)=true∧List.length s5.2<1000000000) (some (.inl (w64 (s5.1+1),(((rdL p0.fNo s5.1).fID,true)::s5.2))))else some (.inl (w64 (s5.1+1),s5.2))))else some (.inr (s5.1,s5.2)))
theorem nD (f:Nat) (p0:TL) (p1:Int) (s5:(Int × (List (Int × Bool)))):LeO (jv f p0 p1 s5) (iS p0 p1 s5):=by
 unfold jv iS
 repeat' first
  | with_reducible first|apply LeO.bind|apply LeO.guard|apply LeO.ite|apply LeO.loop|apply LeO.fold|exact LeO.refl _
  | (intro(u:Sum _ _);cases u <;> dsimp only)
  | intro _
def lB (f:Nat) (p0:TL) (p1:Int):Option (List (Int × Bool)) :=
 ((gJ f (jv f p0 p1) (0,[])).bind fun u6=>some u6.2)
theorem p9 (f:Nat) (p0:TL) (p1:Int):LeO (lB f p0 p1) (jM p0 p1):=by
 unfold lB jM
 repeat' first
  | with_reducible first|apply LeO.bind|apply nD|apply LeO.guard|apply LeO.ite|apply LeO.loop|apply LeO.fold|exact LeO.refl _
  | (intro(u:Sum _ _);cases u <;> dsimp only)
  | intro _
def kd (f:Nat) (p0:TL):Option (List Int) :=
 ((lB f p0 0).bind fun y2=>((bo y2).bind fun y5=>some y5))
theorem oR (f:Nat) (p0:TL):LeO (kd f p0) (gH p0):=by
 unfold kd gH
 repeat' first
  | with_reducible first|apply LeO.bind|apply p9|apply LeO.guard|apply LeO.ite|apply LeO.loop|apply LeO.fold|exact LeO.refl _
  | (intro(u:Sum _ _);cases u <;> dsimp only)
  | intro _
def eC (f:Nat) (p0:TL):Option Unit :=
 some ()
theorem f8 (f:Nat) (p0:TL):LeO (eC f p0) (dj p0):=by
 unfold eC dj
 repeat' first
  | with_reducible first|apply LeO.bind|apply LeO.guard|apply LeO.ite|apply LeO.loop|apply LeO.fold|exact LeO.refl _
  | (intro(u:Sum _ _);cases u <;> dsimp only)
  | intro _
def cm (f:Nat) (p0:(List Int)) (p1:Int) (p3:Int→Int→Option Int) (s8:(Int × (List Int))):Option ((Int × (List Int)) ⊕ (Int × (List Int))) :=
 ((if decide (p1<s8.1)=true then(ac ((0:Int)≤s8.1∧s8.1<(p0.length:Int)) (ac ((0:Int)≤w64 (s8.1-1)∧w64 (s8.1-1)<(p0.length:Int)) (((p3 (rdL s8.2 s8.1) (rdL s8.2 (w64 (s8.1-1)))).bind fun y21=>some (decide (y21<0))))))else(some (false))).bind fun b11=>(if b11=true then ac ((0:Int)≤w64 (s8.1-1)∧w64 (s8.1-1)<(p0.length:Int)) (ac ((0:Int)≤s8.1∧s8.1<(p0.length:Int)) (ac ((0:Int)≤s8.1∧s8.1<(p0.length:Int)) (ac ((0:Int)≤w64 (s8.1-1)∧w64 (s8.1-1)<(p0.length:Int)) (some (.inl (w64 (s8.1-1),((s8.2.set (Int.toNat s8.1) (rdL s8.2 (w64 (s8.1-1)))).set (Int.toNat (w64 (s8.1-1))) (rdL s8.2 s8.1))))))))else some (.inr (s8.1,s8.2))))
theorem gC (f:Nat) (p0:(List Int)) (p1:Int) (p3 p3':Int→Int→Option Int) (hp3_cmp:∀x0 x1,LeO (p3 x0 x1) (p3' x0 x1)) (s8:(Int × (List Int))):LeO (cm f p0 p1 p3 s8) (aJ p0 p1 p3' s8):=by
 unfold cm aJ
 repeat' first
  | with_reducible first|apply LeO.bind|apply hp3_cmp|apply LeO.guard|apply LeO.ite|apply LeO.loop|apply LeO.fold|exact LeO.refl _
  | (intro(u:Sum _ _);cases u <;> dsimp only)
  | intro _
def cj (f:Nat) (p0:(List Int)) (p1:Int) (p2:Int) (p3:Int→Int→Option Int) (s3:(Int × (List Int))):Option ((Int × (List Int)) ⊕ (Int × (List Int))) :=
 (if decide (s3.1<p2)=true then((gJ f (cm f p0 p1 p3) (s3.1,s3.2)).bind fun u9=>some (.inl (w64 (s3.1+1),u9.2)))else some (.inr (s3.1,s3.2)))
theorem gD (f:Nat) (p0:(List Int)) (p1:Int) (p2:Int) (p3 p3':Int→Int→Option Int) (hp3_cmp:∀x0 x1,LeO (p3 x0 x1) (p3' x0 x1)) (s3:(Int × (List Int))):LeO (cj f p0 p1 p2 p3 s3) (az p0 p1 p2 p3' s3):=by
 unfold cj az
 repeat' first
  | with_reducible first|apply LeO.bind|apply hp3_cmp|apply gC|apply LeO.guard|apply LeO.ite|apply LeO.loop|apply LeO.fold|exact LeO.refl _
  | (intro(u:Sum _ _);cases u <;> dsimp only)
  | intro _
def cM (f:Nat) (p0:(List Int)) (p1:Int) (p2:Int) (p3:Int→Int→Option Int):Option (List Int) :=
 ((gJ f (cj f p0 p1 p2 p3) (w64 (p1+1),p0)).bind fun u4=>some u4.2)
theorem ik (f:Nat) (p0:(List Int)) (p1:Int) (p2:Int) (p3 p3':Int→Int→Option Int) (hp3_cmp:∀x0 x1,LeO (p3 x0 x1) (p3' x0 x1)):LeO (cM f p0 p1 p2 p3) (aT p0 p1 p2 p3'):=by
 unfold cM aT
 repeat' first
  | with_reducible first|apply LeO.bind|apply hp3_cmp|apply gD|apply LeO.guard|apply LeO.ite|apply LeO.loop|apply LeO.fold|exact LeO.refl _
  | (intro(u:Sum _ _);cases u <;> dsimp only)
  | intro _
def dz (f:Nat) (p1:Int) (s2:(Int × Int)):Option ((Int × Int) ⊕ (Int × Int)) :=
 ac (decide (s2.2≤p1)=false) (some (.inr (s2.1,s2.2)))
theorem jJ (f:Nat) (p1:Int) (s2:(Int × Int)):LeO (dz f p1 s2) (bw p1 s2):=by
 unfold dz bw
 repeat' first
  | with_reducible first|apply LeO.bind|apply LeO.guard|apply LeO.ite|apply LeO.loop|apply LeO.fold|exact LeO.refl _
  | (intro(u:Sum _ _);cases u <;> dsimp only)
  | intro _
def dB (f:Nat) (p1:Int) (s10:(Int × Int × Int)):Option ((Int × Int × Int) ⊕ (Int × Int × Int)) :=
 ac (decide (s10.1<p1)=false) (some (.inr (s10.1,s10.2.1,s10.2.2)))
theorem jO (f:Nat) (p1:Int) (s10:(Int × Int × Int)):LeO (dB f p1 s10) (bq p1 s10):=by
 unfold dB bq
 repeat' first
  | with_reducible first|apply LeO.bind|apply LeO.guard|apply LeO.ite|apply LeO.loop|apply LeO.fold|exact LeO.refl _
  | (intro(u:Sum _ _);cases u <;> dsimp only)
  | intro _
def dZ (f:Nat) (p0:(List Int)) (p1:Int) (p2:Int→Int→Option Int):Option (List Int) :=
 ((gJ f (dz f p1) (0,20)).bind fun u3=>((cM f p0 u3.1 p1 p2).bind fun y6=>((gJ f (dB f p1) (20,u3.1,u3.2)).bind fun u11=>some y6)))
theorem k8 (f:Nat) (p0:(List Int)) (p1:Int) (p2 p2':Int→Int→Option Int) (hp2_cmp:∀x0 x1,LeO (p2 x0 x1) (p2' x0 x1)):LeO (dZ f p0 p1 p2) (bO p0 p1 p2'):=by
 unfold dZ bO
 repeat' first
  | with_reducible first|apply LeO.bind|apply hp2_cmp|apply ik|apply jJ|apply jO|apply LeO.guard|apply LeO.ite|apply LeO.loop|apply LeO.fold|exact LeO.refl _
  | (intro(u:Sum _ _);cases u <;> dsimp only)
  | intro _
def cX (f:Nat) (p0:(List Int)) (p1:Int→Int→Option Int):Option (List Int) :=
 ((dZ f p0 (p0.length:Int) p1).bind fun y1=>some y1)
theorem iX (f:Nat) (p0:(List Int)) (p1 p1':Int→Int→Option Int) (hp1_cmp:∀x0 x1,LeO (p1 x0 x1) (p1' x0 x1)):LeO (cX f p0 p1) (bh p0 p1'):=by
 unfold cX bh
 repeat' first
  | with_reducible first|apply LeO.bind|apply hp1_cmp|apply k8|apply LeO.guard|apply LeO.ite|apply LeO.loop|apply LeO.fold|exact LeO.refl _
  | (intro(u:Sum _ _);cases u <;> dsimp only)
  | intro _
def jc (f:Nat) (p0:Int) (p1:Int):Option Int :=
 ((iA f p0).bind fun y1=>((iA f p1).bind fun y3=>(if y1=true then(if y3=true then some 0 else some (-1))else(if y3=true then some 1 else(if decide (p0<p1)=true then some (-1)else(if decide (p1<p0)=true then some 1 else some 0))))))
theorem nG (f:Nat) (p0:Int) (p1:Int):LeO (jc f p0 p1) (dO p0 p1):=by
 unfold jc dO
 repeat' first
  | with_reducible first|apply LeO.bind|apply pN|apply LeO.guard|apply LeO.ite|apply LeO.loop|apply LeO.fold|exact LeO.refl _
  | (intro(u:Sum _ _);cases u <;> dsimp only)
  | intro _
def ja (f:Nat) (p0:Int) (p1:Int) (cap0:TL):Option Int :=
 ac ((0:Int)≤p0∧p0<(cap0.fNo.length:Int)) (ac ((0:Int)≤p1∧p1<(cap0.fNo.length:Int)) (((jc f ((rdL cap0.fNo p0).fLevel) ((rdL cap0.fNo p1).fLevel)).bind fun y3=>some y3)))
theorem oD (f:Nat) (p0:Int) (p1:Int) (cap0:TL):LeO (ja f p0 p1 cap0) (dn p0 p1 cap0):=by
 unfold ja dn
 repeat' first
  | with_reducible first|apply LeO.bind|apply nG|apply LeO.guard|apply LeO.ite|apply LeO.loop|apply LeO.fold|exact LeO.refl _
  | (intro(u:Sum _ _);cases u <;> dsimp only)
  | intro _
def iM (f:Nat) (p0:TL) (s6:(Int × (List Int))):Option ((Int × (List Int)) ⊕ (Int × (List Int))) :=
 (if decide (s6.1<((Int.toNat (p0.fNo.length:Int):Nat):Int))=true then ac ((0:Int)≤s6.1∧s6.1<((Int.toNat (p0.fNo.length:Int):Nat):Int)) (some (.inl (w64 (s6.1+1),(s6.2.set (Int.toNat s6.1) s6.1))))else some (.inr (s6.1,s6.2)))
theorem nj (f:Nat) (p0:TL) (s6:(Int × (List Int))):LeO (iM f p0 s6) (cV p0 s6):=by
 unfold iM cV
 repeat' first
  | with_reducible first|apply LeO.bind|apply LeO.guard|apply LeO.ite|apply LeO.loop|apply LeO.fold|exact LeO.refl _
  | (intro(u:Sum _ _);cases u <;> dsimp only)
  | intro _
def kY (f:Nat) (p0:TL):Option (List Int) :=
 ac ((0:Int)≤(p0.fNo.length:Int)∧(p0.fNo.length:Int)*8≤281474976710656) (((gJ f (iM f p0) (0,(List.replicate (Int.toNat (p0.fNo.length:Int)) 0))).bind fun u7=>((cX f u7.2 (fun x11 x12=>ja f x11 x12 p0)).bind fun y13=>some y13)))
theorem pz (f:Nat) (p0:TL):LeO (kY f p0) (fg p0):=by
 unfold kY fg
 repeat' first
  | with_reducible first|apply LeO.bind|apply oD|apply nj|apply iX|apply LeO.guard|apply LeO.ite|apply LeO.loop|apply LeO.fold|exact LeO.refl _
  | (intro(u:Sum _ _);cases u <;> dsimp only)
  | intro _
def ju (f:Nat) (p0:TL) (p2:Int→Int→Option Bool) (s5:(Int × (List (Int × (List Int))))) (s12:(Int × (List (Int × (List Int))))):Option ((Int × (List (Int × (List Int)))) ⊕ (Int × (List (Int × (List Int))))) :=
 (if decide (s12.1<(((rdL p0.fC s5.1).fO.length:Nat):Int))=true then ac ((0:Int)≤s12.1∧s12.1<(((rdL p0.fC s5.1).fO.length:Nat):Int)) (((p2 s5.1 s12.1).bind fun y17=>(if y17=true then ac (dx ((rdL ((rdL p0.fC s5.1).fO) s12.1).fFrom)=true) (ac ((ax [] s12.2 ((rdL ((rdL p0.fC s5.1).fO) s12.1).fFrom)).length+1≤1000000000) (ac (dx ((rdL ((rdL p0.fC s5.1).fO) s12.1).fFrom)=true∧List.length s12.2<1000000000) (some (.inl (w64 (s12.1+1),(((rdL ((rdL p0.fC s5.1).fO) s12.1).fFrom,((ax [] s12.2 ((rdL ((rdL p0.fC s5.1).fO) s12.1).fFrom))++[(rdL ((rdL p0.fC s5.1).fO) s12.1).fTo]))::s12.2))))))else some (.inl (w64 (s12.1+1),s12.2)))))else some (.inr (s12.1,s12.2)))
theorem oo (f:Nat) (p0:TL) (p2 p2':Int→Int→Option Bool) (hp2_so:∀x0 x1,LeO (p2 x0 x1) (p2' x0 x1)) (s5:(Int × (List (Int × (List Int))))) (s12:(Int × (List (Int × (List Int))))):LeO (ju f p0 p2 s5 s12) (dr p0 p2' s5 s12):=by
 unfold ju dr
 repeat' first
  | with_reducible first|apply LeO.bind|apply hp2_so|apply LeO.guard|apply LeO.ite|apply LeO.loop|apply LeO.fold|exact LeO.refl _
  | (intro(u:Sum _ _);cases u <;> dsimp only)
  | intro _
def jA (f:Nat) (p0:TL) (p2:Int→Int→Option Bool) (s5:(Int × (List (Int × (List Int))))):Option ((Int × (List (Int × (List Int)))) ⊕ (Int × (List (Int × (List Int))))) :=
 (if decide (s5.1<(p0.fC.length:Int))=true then ac ((0:Int)≤s5.1∧s5.1<(p0.fC.length:Int)) (((gJ f (ju f p0 p2 s5) (0,s5.2)).bind fun u13=>some (.inl (w64 (s5.1+1),u13.2))))else some (.inr (s5.1,s5.2)))
theorem nt (f:Nat) (p0:TL) (p2 p2':Int→Int→Option Bool) (hp2_so:∀x0 x1,LeO (p2 x0 x1) (p2' x0 x1)) (s5:(Int × (List (Int × (List Int))))):LeO (jA f p0 p2 s5) (dk p0 p2' s5):=by
 unfold jA dk
 repeat' first
  | with_reducible first|apply LeO.bind|apply hp2_so|apply oo|apply LeO.guard|apply LeO.ite|apply LeO.loop|apply LeO.fold|exact LeO.refl _
  | (intro(u:Sum _ _);cases u <;> dsimp only)
  | intro _
def jh (f:Nat) (p1:(List Int)) (s32:(Int × (List (Int × Bool)))):Option ((Int × (List (Int × Bool))) ⊕ (Int × (List (Int × Bool)))) :=
 (if decide (s32.1<(p1.length:Int))=true then ac ((0:Int)≤s32.1∧s32.1<(p1.length:Int)) (ac (dx (rdL p1 s32.1)=true∧List.length s32.2<1000000000) (some (.inl (w64 (s32.1+1),(((rdL p1 s32.1),true)::s32.2)))))else some (.inr (s32.1,s32.2)))
theorem od (f:Nat) (p1:(List Int)) (s32:(Int × (List (Int × Bool)))):LeO (jh f p1 s32) (dM p1 s32):=by
 unfold jh dM
 repeat' first
  | with_reducible first|apply LeO.bind|apply LeO.guard|apply LeO.ite|apply LeO.loop|apply LeO.fold|exact LeO.refl _
  | (intro(u:Sum _ _);cases u <;> dsimp only)
  | intro _
def jg (f:Nat) (p0:TL) (u6:(Int × (List (Int × (List Int))))) (y38:(List Int)) (s46:(Int × (List (Int × Bool)))) (s56:(Int × (List (Int × Bool)))):Option ((Int × (List (Int × Bool))) ⊕ (Int × (List (Int × Bool)))) :=
 (if decide (s56.1<(((ax [] u6.2 ((rdL p0.fNo (rdL y38 s46.1)).fID)).length:Nat):Int))=true then ac ((0:Int)≤s56.1∧s56.1<(((ax [] u6.2 ((rdL p0.fNo (rdL y38 s46.1)).fID)).length:Nat):Int)) (ac (dx (rdL (ax [] u6.2 ((rdL p0.fNo (rdL y38 s46.1)).fID)) s56.1)=true∧List.length s56.2<1000000000) (some (.inl (w64 (s56.1+1),(((rdL (ax [] u6.2 ((rdL p0.fNo (rdL y38 s46.1)).fID)) s56.1),true)::s56.2)))))else some (.inr (s56.1,s56.2)))
theorem nR (f:Nat) (p0:TL) (u6:(Int × (List (Int × (List Int))))) (y38:(List Int)) (s46:(Int × (List (Int × Bool)))) (s56:(Int × (List (Int × Bool)))):LeO (jg f p0 u6 y38 s46 s56) (dS p0 u6 y38 s46 s56):=by
 unfold jg dS
 repeat' first
  | with_reducible first|apply LeO.bind|apply LeO.guard|apply LeO.ite|apply LeO.loop|apply LeO.fold|exact LeO.refl _
  | (intro(u:Sum _ _);cases u <;> dsimp only)
  | intro _
def ji (f:Nat) (p0:TL) (u6:(Int × (List (Int × (List Int))))) (y38:(List Int)) (s46:(Int × (List (Int × Bool)))):Option ((Int × (List (Int × Bool))) ⊕ (Int × (List (Int × Bool)))) :=
 (if decide (s46.1<(y38.length:Int))=true then ac ((0:Int)≤s46.1∧s46.1<(y38.length:Int)) (ac ((0:Int)≤(rdL y38 s46.1)∧(rdL y38 s46.1)<(p0.fNo.length:Int)) (ac (dx ((rdL p0.fNo (rdL y38 s46.1)).fID)=true) ((if(!(ax false s46.2 ((rdL p0.fNo (rdL y38 s46.1)).fID)))=true then some (.inl (w64 (s46.1+1),s46.2))else ac (dx ((rdL p0.fNo (rdL y38 s46.1)).fID)=true) (((gJ f (jg f p0 u6 y38 s46) (0,s46.2)).bind fun u57=>some (.inl (w64 (s46.1+1),u57.2))))))))else some (.inr (s46.1,s46.2)))
theorem oh (f:Nat) (p0:TL) (u6:(Int × (List (Int × (List Int))))) (y38:(List Int)) (s46:(Int × (List (Int × Bool)))):LeO (ji f p0 u6 y38 s46) (dl p0 u6 y38 s46):=by
 unfold ji dl
 repeat' first
  | with_reducible first|apply LeO.bind|apply nR|apply LeO.guard|apply LeO.ite|apply LeO.loop|apply LeO.fold|exact LeO.refl _
  | (intro(u:Sum _ _);cases u <;> dsimp only)
  | intro _
def eJ (f:Nat) (p0:TL) (p1:(List Int)) (p2:Int→Int→Option Bool):Option (List (Int × Bool)) :=
 ((gJ f (jA f p0 p2) (0,([]:(List (Int × (List Int)))))).bind fun u6=>((gJ f (jh f p1) (0,[])).bind fun u33=>((kY f p0).bind fun y38=>((gJ f (ji f p0 u6 y38) (0,u33.2)).bind fun u47=>some u47.2))))
theorem gc (f:Nat) (p0:TL) (p1:(List Int)) (p2 p2':Int→Int→Option Bool) (hp2_so:∀x0 x1,LeO (p2 x0 x1) (p2' x0 x1)):LeO (eJ f p0 p1 p2) (rcR p0 p1 p2'):=by
 unfold eJ rcR
 repeat' first
  | with_reducible first|apply LeO.bind|apply hp2_so|apply pz|apply nt|apply od|apply oh|apply LeO.guard|apply LeO.ite|apply LeO.loop|apply LeO.fold|exact LeO.refl _
  | (intro(u:Sum _ _);cases u <;> dsimp only)
  | intro _
def em (f:Nat) (p0:(List Int)) (p1:Int) (p2:Int):Option Bool :=
 ac ((0:Int)≤p1∧p1<(p0.length:Int)) (some ((rdL p0 p1)==p2))
theorem gY (f:Nat) (p0:(List Int)) (p1:Int) (p2:Int):LeO (em f p0 p1 p2) (bf p0 p1 p2):=by
 unfold em bf
 repeat' first
  | with_reducible first|apply LeO.bind|apply LeO.guard|apply LeO.ite|apply LeO.loop|apply LeO.fold|exact LeO.refl _
  | (intro(u:Sum _ _);cases u <;> dsimp only)
  | intro _
def gh (f:Nat) (p0:(List Int)):Option Unit :=
 some ()
theorem ke (f:Nat) (p0:(List Int)):LeO (gh f p0) (dF p0):=by
 unfold gh dF
 repeat' first
  | with_reducible first|apply LeO.bind|apply LeO.guard|apply LeO.ite|apply LeO.loop|apply LeO.fold|exact LeO.refl _
  | (intro(u:Sum _ _);cases u <;> dsimp only)
  | intro _
def gz (f:Nat) (p0:TL) (p1:(List Int)) (s18:(List (Int × Bool))) (x19:(List Int)):Option ((List (Int × Bool)) ⊕ Unit) :=
 ((gh f x19).bind fun y21=>((eJ f p0 p1 (fun x23 x24=>em f x19 x23 x24)).bind fun y25=>ac (List.length s18+List.length y25≤1000000) (some (.inl (lk true y25 s18)))))
theorem mz (f:Nat) (p0:TL) (p1:(List Int)) (s18:(List (Int × Bool))) (x19:(List Int)):LeO (gz f p0 p1 s18 x19) (dv p0 p1 s18 x19):=by
 unfold gz dv
 repeat' first
  | with_reducible first|apply LeO.bind|apply gY|apply ke|apply gc|apply LeO.guard|apply LeO.ite|apply LeO.loop|apply LeO.fold|exact LeO.refl _
  | (intro(u:Sum _ _);cases u <;> dsimp only)
  | intro _
def cv (f:Nat) (p0:TL) (p1:(List Int)):Option (List (Int × Bool)) :=
 ((eC f p0).bind fun y5=>(ac (cq p0) ((gA (gz f p0 p1) (sCs p0) []).bind fun u20=>match u20 with|.inl u45=>some u45|.inr _=>none)))
theorem ez (f:Nat) (p0:TL) (p1:(List Int)):LeO (cv f p0 p1) (bI p0 p1):=by
 unfold cv bI
 repeat' first
  | with_reducible first|apply LeO.bind|apply f8|apply mz|apply LeO.guard|apply LeO.ite|apply LeO.loop|apply LeO.fold|exact LeO.refl _
  | (intro(u:Sum _ _);cases u <;> dsimp only)
  | intro _
def kc (f:Nat) (p0:TL) (p1:(List Int)) (s20:(List (Int × Bool))) (x21:(List Int)):Option ((List (Int × Bool)) ⊕ Unit) :=
 ((gh f x21).bind fun y23=>((eJ f p0 p1 (fun x25 x26=>em f x21 x25 x26)).bind fun y27=>some (.inl (s20.filter (fun p => !(fun y33=>(!(ax false y27 y33))) p.1)))))
theorem oQ (f:Nat) (p0:TL) (p1:(List Int)) (s20:(List (Int × Bool))) (x21:(List Int)):LeO (kc f p0 p1 s20 x21) (fG p0 p1 s20 x21):=by
 unfold kc fG
 repeat' first
  | with_reducible first|apply LeO.bind|apply gY|apply ke|apply gc|apply LeO.guard|apply LeO.ite|apply LeO.loop|apply LeO.fold|exact LeO.refl _
  | (intro(u:Sum _ _);cases u <;> dsimp only)
  | intro _
def gu (f:Nat) (p0:TL) (p1:(List Int)):Option (List (Int × Bool)) :=
 ((cv f p0 p1).bind fun y3=>((eC f p0).bind fun y7=>(ac (cq p0) ((gA (kc f p0 p1) (sCs p0) y3).bind fun u22=>match u22 with|.inl u48=>some u48|.inr _=>none))))
theorem jF (f:Nat) (p0:TL) (p1:(List Int)):LeO (gu f p0 p1) (eD p0 p1):=by
 unfold gu eD
 repeat' first
  | with_reducible first|apply LeO.bind|apply f8|apply ez|apply oQ|apply LeO.guard|apply LeO.ite|apply LeO.loop|apply LeO.fold|exact LeO.refl _
  | (intro(u:Sum _ _);cases u <;> dsimp only)
  | intro _
def g0 (f:Nat) (p0:TL) (p1:Int) (y8:(List Int)) (s16:(Int × (List Int) × (List Int))):Option ((Int × (List Int) × (List Int)) ⊕ (Int × (List Int) × (List Int))) :=
 (if decide (s16.1<(y8.length:Int))=true then ac ((0:Int)≤s16.1∧s16.1<(y8.length:Int)) (((gu f p0 [(rdL y8 s16.1)]).bind fun y21=>ac (dx p1=true) ((if ax false y21 p1=true then ac (s16.2.1.length+1≤1000000000) (((cv f p0 [(rdL y8 s16.1)]).bind fun y31=>ac (dx p1=true) ((if ax false y31 p1=true then ac (s16.2.2.length+1≤1000000000) (some (.inl (w64 (s16.1+1),(s16.2.1++[(rdL y8 s16.1)]),(s16.2.2++[(rdL y8 s16.1)]))))else some (.inl (w64 (s16.1+1),(s16.2.1++[(rdL y8 s16.1)]),s16.2.2))))))else((cv f p0 [(rdL y8 s16.1)]).bind fun y41=>ac (dx p1=true) ((if ax false y41 p1=true then ac (s16.2.2.length+1≤1000000000) (some (.inl (w64 (s16.1+1),s16.2.1,(s16.2.2++[(rdL y8 s16.1)]))))else some (.inl (w64 (s16.1+1),s16.2.1,s16.2.2)))))))))else some (.inr (s16.1,s16.2.1,s16.2.2)))
theorem na (f:Nat) (p0:TL) (p1:Int) (y8:(List Int)) (s16:(Int × (List Int) × (List Int))):LeO (g0 f p0 p1 y8 s16) (gl p0 p1 y8 s16):=by
 unfold g0 gl
 repeat' first
  | with_reducible first|apply LeO.bind|apply ez|apply jF|apply LeO.guard|apply LeO.ite|apply LeO.loop|apply LeO.fold|exact LeO.refl _
  | (intro(u:Sum _ _);cases u <;> dsimp only)
  | intro _
def j4 (f:Nat) (p0:TL) (p1:Int):Option ((List Int) × (List Int) × Int) :=
 ((gO f p0).bind fun y2=>(if(y2 !=0)=true then some ([],[],y2)else((dq f p0 p1).bind fun y5=>(if decide (y5<0)=true then some ([],[],5)else((kd f p0).bind fun y8=>((gJ f (g0 f p0 p1 y8) (0,([]:List Int),([]:List Int))).bind fun u17=>some (u17.2.1,u17.2.2,0)))))))
theorem pg (f:Nat) (p0:TL) (p1:Int):LeO (j4 f p0 p1) (gQ p0 p1):=by
 unfold j4 gQ
 repeat' first
  | with_reducible first|apply LeO.bind|apply ld|apply na|apply oR|apply fw|apply LeO.guard|apply LeO.ite|apply LeO.loop|apply LeO.fold|exact LeO.refl _
  | (intro(u:Sum _ _);cases u <;> dsimp only)
  | intro _
def d5 (f:Nat) (p0:(List Int)) (p1:Int→Option Int) (p2:Int→Option Bool) (s2:(Bool × Int)):Option ((Bool × Int) ⊕ ((Bool × Int) ⊕ (Bool × Int))) :=
 (if decide (s2.2<(p0.length:Int))=true then ac ((0:Int)≤s2.2∧s2.2<(p0.length:Int)) (((p1 (rdL p0 s2.2)).bind fun y6=>((p2 y6).bind fun y8=>((if(!y8)=true then(some (true))else((if decide (0<s2.2)=true then((p1 (rdL p0 s2.2)).bind fun y17=>ac ((0:Int)≤w64 (s2.2-1)∧w64 (s2.2-1)<(p0.length:Int)) (((p1 (rdL p0 (w64 (s2.2-1)))).bind fun y20=>some (decide (y17≤y20)))))else(some (false))).bind fun b15=>some (b15))).bind fun b11=>(if b11=true then some (.inr (.inl (false,s2.2)))else some (.inl (s2.1,w64 (s2.2+1))))))))else some (.inr (.inr (s2.1,s2.2))))
theorem k6 (f:Nat) (p0:(List Int)) (p1 p1':Int→Option Int) (hp1_id:∀x,LeO (p1 x) (p1' x)) (p2 p2':Int→Option Bool) (hp2_so:∀x,LeO (p2 x) (p2' x)) (s2:(Bool × Int)):LeO (d5 f p0 p1 p2 s2) (a8 p0 p1' p2' s2):=by
 unfold d5 a8
 repeat' first
  | with_reducible first|apply LeO.bind|apply hp1_id|apply hp2_so|apply LeO.guard|apply LeO.ite|apply LeO.loop|apply LeO.fold|exact LeO.refl _
  | (intro(u:Sum _ _);cases u <;> dsimp only)
  | intro _
def fu (f:Nat) (p0:(List Int)) (p1:Int→Option Int) (p2:Int→Option Bool):Option Bool :=
 ((gJ f (d5 f p0 p1 p2) (false,0)).bind fun u3=>match u3 with|(.inl u23)=>some u23.1|(.inr u24)=>some true)
theorem lQ (f:Nat) (p0:(List Int)) (p1 p1':Int→Option Int) (hp1_id:∀x,LeO (p1 x) (p1' x)) (p2 p2':Int→Option Bool) (hp2_so:∀x,LeO (p2 x) (p2' x)):LeO (fu f p0 p1 p2) (bz p0 p1' p2'):=by
 unfold fu bz
 repeat' first
  | with_reducible first|apply LeO.bind|apply hp1_id|apply hp2_so|apply k6|apply LeO.guard|apply LeO.ite|apply LeO.loop|apply LeO.fold|exact LeO.refl _
  | (intro(u:Sum _ _);cases u <;> dsimp only)
  | intro _
def mJ (f:Nat) (p0:Int):Option Int :=
 some p0
theorem rG (f:Nat) (p0:Int):LeO (mJ f p0) (eb p0):=by
 unfold mJ eb
 repeat' first
  | with_reducible first|apply LeO.bind|apply LeO.guard|apply LeO.ite|apply LeO.loop|apply LeO.fold|exact LeO.refl _
  | (intro(u:Sum _ _);cases u <;> dsimp only)
  | intro _
def jp (f:Nat) (p0:Int) (cap0:TL):Option Bool :=
 ((dq f cap0 p0).bind fun y1=>some (decide (0≤y1)))
theorem nU (f:Nat) (p0:Int) (cap0:TL):LeO (jp f p0 cap0) (dp p0 cap0):=by
 unfold jp dp
 repeat' first
  | with_reducible first|apply LeO.bind|apply fw|apply LeO.guard|apply LeO.ite|apply LeO.loop|apply LeO.fold|exact LeO.refl _
  | (intro(u:Sum _ _);cases u <;> dsimp only)
  | intro _
def kC (f:Nat) (p0:TL) (p1:(List Int)):Option Bool :=
 ((if decide (0<(p1.length:Int))=true then((fu f p1 (fun x5=>mJ f x5) (fun x6=>jp f x6 p0)).bind fun y7=>some (y7))else(some (false))).bind fun b3=>some b3)
theorem pP (f:Nat) (p0:TL) (p1:(List Int)):LeO (kC f p0 p1) (fp p0 p1):=by
 unfold kC fp
 repeat' first
  | with_reducible first|apply LeO.bind|apply lQ|apply nU|apply rG|apply LeO.guard|apply LeO.ite|apply LeO.loop|apply LeO.fold|exact LeO.refl _
  | (intro(u:Sum _ _);cases u <;> dsimp only)
  | intro _
def eM (f:Nat) (p0:TL) (p1:(List Int)):Option Int :=
 ((gO f p0).bind fun y2=>(if(y2 !=0)=true then some y2 else((kC f p0 p1).bind fun y5=>(if(!y5)=true then some 1 else some 0))))
theorem ge (f:Nat) (p0:TL) (p1:(List Int)):LeO (eM f p0 p1) (ct p0 p1):=by
 unfold eM ct
 repeat' first
  | with_reducible first|apply LeO.bind|apply ld|apply pP|apply LeO.guard|apply LeO.ite|apply LeO.loop|apply LeO.fold|exact LeO.refl _
  | (intro(u:Sum _ _);cases u <;> dsimp only)
  | intro _
def jf (f:Nat) (p0:TL) (p1:(List (Int × Bool))) (s5:(Int × Int × (List (Int × Bool)))):Option ((Int × Int × (List (Int × Bool))) ⊕ (Int × Int × (List (Int × Bool)))) :=
 (if decide (s5.2.1<(p0.fNo.length:Int))=true then ac ((0:Int)≤s5.2.1∧s5.2.1<(p0.fNo.length:Int)) (((if(((rdL p0.fNo s5.2.1).fLevel)==9)=true then(ac (dx ((rdL p0.fNo s5.2.1).fID)=true) (some (ax false p1 ((rdL p0.fNo s5.2.1).fID))))else(some (false))).bind fun b11=>(if b11=true then ac (dx ((rdL p0.fNo s5.2.1).fID)=true∧List.length s5.2.2<1000000000) (some (.inl (w64 (s5.1+((rdL p0.fNo s5.2.1).fCost)),w64 (s5.2.1+1),(((rdL p0.fNo s5.2.1).fID,true)::s5.2.2))))else some (.inl (s5.1,w64 (s5.2.1+1),s5.2.2)))))else some (.inr (s5.1,s5.2.1,s5.2.2)))
theorem nE (f:Nat) (p0:TL) (p1:(List (Int × Bool))) (s5:(Int × Int × (List (Int × Bool)))):LeO (jf f p0 p1 s5) (iB p0 p1 s5):=by
 unfold jf iB
 repeat' first
  | with_reducible first|apply LeO.bind|apply LeO.guard|apply LeO.ite|apply LeO.loop|apply LeO.fold|exact LeO.refl _
  | (intro(u:Sum _ _);cases u <;> dsimp only)
  | intro _
def gI (f:Nat) (p0:TL) (p1:(List (Int × Bool))):Option ((List Int) × Int) :=
 ((gJ f (jf f p0 p1) (0,0,[])).bind fun u6=>((bo u6.2.2).bind fun y17=>some (y17,u6.1)))
theorem mB (f:Nat) (p0:TL) (p1:(List (Int × Bool))):LeO (gI f p0 p1) (gb p0 p1):=by
 unfold gI gb
 repeat' first
  | with_reducible first|apply LeO.bind|apply nE|apply LeO.guard|apply LeO.ite|apply LeO.loop|apply LeO.fold|exact LeO.refl _
  | (intro(u:Sum _ _);cases u <;> dsimp only)
  | intro _
def kF (f:Nat) (p0:TL) (p1:(List Int)) (p2:Bool):Option ((List Int) × Int × Int) :=
 ((eM f p0 p1).bind fun y2=>(if(y2 !=0)=true then some ([],0,y2)else((cv f p0 p1).bind fun y5=>(if p2=true then((gu f p0 p1).bind fun y9=>((gI f p0 y9).bind fun y12=>some (y12.1,y12.2,0)))else((gI f p0 y5).bind fun y18=>some (y18.1,y18.2,0))))))
theorem pA (f:Nat) (p0:TL) (p1:(List Int)) (p2:Bool):LeO (kF f p0 p1 p2) (iQ p0 p1 p2):=by
 unfold kF iQ
 repeat' first
  | with_reducible first|apply LeO.bind|apply ge|apply ez|apply jF|apply mB|apply LeO.guard|apply LeO.ite|apply LeO.loop|apply LeO.fold|exact LeO.refl _
  | (intro(u:Sum _ _);cases u <;> dsimp only)
  | intro _
def g6 (f:Nat) (p0:(List Int)) (p1:(List Int)) (s3:(Bool × Int)):Option ((Bool × Int) ⊕ ((Bool × Int) ⊕ (Bool × Int))) :=
 (if decide (s3.2<(p0.length:Int))=true then ac ((0:Int)≤s3.2∧s3.2<(p0.length:Int)) (ac ((0:Int)≤s3.2∧s3.2<(p1.length:Int)) ((if((rdL p0 s3.2) !=(rdL p1 s3.2))=true then some (.inr (.inl (false,s3.2)))else some (.inl (s3.1,w64 (s3.2+1))))))else some (.inr (.inr (s3.1,s3.2))))
theorem m6 (f:Nat) (p0:(List Int)) (p1:(List Int)) (s3:(Bool × Int)):LeO (g6 f p0 p1 s3) (go p0 p1 s3):=by
 unfold g6 go
 repeat' first
  | with_reducible first|apply LeO.bind|apply LeO.guard|apply LeO.ite|apply LeO.loop|apply LeO.fold|exact LeO.refl _
  | (intro(u:Sum _ _);cases u <;> dsimp only)
  | intro _
def bS (f:Nat) (p0:(List Int)) (p1:(List Int)):Option Bool :=
 (if((p0.length:Int) !=(p1.length:Int))=true then some false else((gJ f (g6 f p0 p1) (false,0)).bind fun u4=>match u4 with|(.inl u10)=>some u10.1|(.inr u11)=>some true))
theorem pn (f:Nat) (p0:(List Int)) (p1:(List Int)):LeO (bS f p0 p1) (bR p0 p1):=by
 unfold bS bR
 repeat' first
  | with_reducible first|apply LeO.bind|apply m6|apply LeO.guard|apply LeO.ite|apply LeO.loop|apply LeO.fold|exact LeO.refl _
  | (intro(u:Sum _ _);cases u <;> dsimp only)
  | intro _
def ed (f:Nat) (p0:TL) (p1:(List Int)) (p2:Int):Option Int :=
 ((eM f p0 p1).bind fun y2=>(if(y2 !=0)=true then some y2 else((dq f p0 p2).bind fun y5=>(if decide (y5<0)=true then some 5 else some 0))))
theorem gp (f:Nat) (p0:TL) (p1:(List Int)) (p2:Int):LeO (ed f p0 p1 p2) (dI p0 p1 p2):=by
 unfold ed dI
 repeat' first
  | with_reducible first|apply LeO.bind|apply ge|apply fw|apply LeO.guard|apply LeO.ite|apply LeO.loop|apply LeO.fold|exact LeO.refl _
  | (intro(u:Sum _ _);cases u <;> dsimp only)
  | intro _
def jZ (f:Nat) (p0:Int) (p1:Int) (cap0:(List Int)) (cap1:Int→Int→Option Bool):Option Bool :=
 ac ((0:Int)≤p0∧p0<(cap0.length:Int)) (((if((rdL cap0 p0)==p1)=true then((cap1 p0 p1).bind fun y5=>some (y5))else(some (false))).bind fun b3=>some b3))
theorem o3 (f:Nat) (p0:Int) (p1:Int) (cap0:(List Int)) (cap1 cap1':Int→Int→Option Bool) (hcap1:∀x0 x1,LeO (cap1 x0 x1) (cap1' x0 x1)):LeO (jZ f p0 p1 cap0 cap1) (fK p0 p1 cap0 cap1'):=by
 unfold jZ fK
 repeat' first
  | with_reducible first|apply LeO.bind|apply hcap1|apply LeO.guard|apply LeO.ite|apply LeO.loop|apply LeO.fold|exact LeO.refl _
  | (intro(u:Sum _ _);cases u <;> dsimp only)
  | intro _
def jn (f:Nat) (p0:TL) (p1:(List Int)) (p2:Int) (p3:Int→Int→Option Bool) (s24:Bool) (x25:(List Int)):Option (Bool ⊕ Bool) :=
 ((eJ f p0 p1 (fun x28 x29=>jZ f x28 x29 x25 p3)).bind fun y30=>ac (dx p2=true) ((if ax false y30 p2=true then some (.inr true)else some (.inl s24))))
theorem nZ (f:Nat) (p0:TL) (p1:(List Int)) (p2:Int) (p3 p3':Int→Int→Option Bool) (hp3_so:∀x0 x1,LeO (p3 x0 x1) (p3' x0 x1)) (s24:Bool) (x25:(List Int)):LeO (jn f p0 p1 p2 p3 s24 x25) (ip p0 p1 p2 p3' s24 x25):=by
 unfold jn ip
 repeat' first
  | with_reducible first|apply LeO.bind|apply hp3_so|apply o3|apply gc|apply LeO.guard|apply LeO.ite|apply LeO.loop|apply LeO.fold|exact LeO.refl _
  | (intro(u:Sum _ _);cases u <;> dsimp only)
  | intro _
def eA (f:Nat) (p0:TL) (p1:(List Int)) (p2:Int) (p3:Int→Int→Option Bool):Option Bool :=
 ((eJ f p0 p1 p3).bind fun y6=>ac (dx p2=true) ((if(!(ax false y6 p2))=true then some false else((eC f p0).bind fun y11=>(ac (cq p0) ((gA (jn f p0 p1 p2 p3) (sCs p0) false).bind fun u26=>match u26 with|.inl u37=>some false|.inr u38=>some u38))))))
theorem gj (f:Nat) (p0:TL) (p1:(List Int)) (p2:Int) (p3 p3':Int→Int→Option Bool) (hp3_so:∀x0 x1,LeO (p3 x0 x1) (p3' x0 x1)):LeO (eA f p0 p1 p2 p3) (eu p0 p1 p2 p3'):=by
 unfold eA eu
 repeat' first
  | with_reducible first|apply LeO.bind|apply hp3_so|apply f8|apply nZ|apply gc|apply LeO.guard|apply LeO.ite|apply LeO.loop|apply LeO.fold|exact LeO.refl _
  | (intro(u:Sum _ _);cases u <;> dsimp only)
  | intro _
def f5 (f:Nat) (p0:Int) (p1:Int):Option Bool :=
 some true
theorem kO (f:Nat) (p0:Int) (p1:Int):LeO (f5 f p0 p1) (cQ p0 p1):=by
 unfold f5 cQ
 repeat' first
  | with_reducible first|apply LeO.bind|apply LeO.guard|apply LeO.ite|apply LeO.loop|apply LeO.fold|exact LeO.refl _
  | (intro(u:Sum _ _);cases u <;> dsimp only)
  | intro _
def kf (f:Nat) (p0:Int) (p1:Int) (cap0:Int):Option Bool :=
 some (p0 !=cap0)
theorem pm (f:Nat) (p0:Int) (p1:Int) (cap0:Int):LeO (kf f p0 p1 cap0) (fU p0 p1 cap0):=by
 unfold kf fU
 repeat' first
  | with_reducible first|apply LeO.bind|apply LeO.guard|apply LeO.ite|apply LeO.loop|apply LeO.fold|exact LeO.refl _
  | (intro(u:Sum _ _);cases u <;> dsimp only)
  | intro _
def jo (f:Nat) (p0:TL) (p1:(List Int)) (p2:Int) (s12:(Int × (List Int))):Option ((Int × (List Int)) ⊕ (Int × (List Int))) :=
 (if decide (s12.1<(p0.fC.length:Int))=true then ac ((0:Int)≤s12.1∧s12.1<(p0.fC.length:Int)) (((eA f p0 p1 p2 (fun x18 x19=>kf f x18 x19 s12.1)).bind fun y20=>(if(!y20)=true then ac (s12.2.length+1≤1000000000) (some (.inl (w64 (s12.1+1),(s12.2++[(rdL p0.fC s12.1).fID]))))else some (.inl (w64 (s12.1+1),s12.2)))))else some (.inr (s12.1,s12.2)))
theorem oe (f:Nat) (p0:TL) (p1:(List Int)) (p2:Int) (s12:(Int × (List Int))):LeO (jo f p0 p1 p2 s12) (iD p0 p1 p2 s12):=by
 unfold jo iD
 repeat' first
  | with_reducible first|apply LeO.bind|apply pm|apply gj|apply LeO.guard|apply LeO.ite|apply LeO.loop|apply LeO.fold|exact LeO.refl _
  | (intro(u:Sum _ _);cases u <;> dsimp only)
  | intro _
def lI (f:Nat) (p0:TL) (p1:(List Int)) (p2:Int):Option ((List Int) × Int) :=
 ((ed f p0 p1 p2).bind fun y2=>(if(y2 !=0)=true then some ([],y2)else((eA f p0 p1 p2 (fun x5 x6=>f5 f x5 x6)).bind fun y7=>(if(!y7)=true then some ([],5)else((gJ f (jo f p0 p1 p2) (0,([]:List Int))).bind fun u13=>((bP u13.2).bind fun y28=>some (y28,0)))))))
theorem qk (f:Nat) (p0:TL) (p1:(List Int)) (p2:Int):LeO (lI f p0 p1 p2) (jI p0 p1 p2):=by
 unfold lI jI
 repeat' first
  | with_reducible first|apply LeO.bind|apply oe|apply kO|apply gp|apply gj|apply LeO.guard|apply LeO.ite|apply LeO.loop|apply LeO.fold|exact LeO.refl _
  | (intro(u:Sum _ _);cases u <;> dsimp only)
  | intro _
def eB (f:Nat) (p0:(List Int)) (p1:Int) (s2:(Int × Int)):Option ((Int × Int) ⊕ ((Int × Int) ⊕ (Int × Int))) :=
 (if decide (s2.2<(p0.length:Int))=true then ac ((0:Int)≤s2.2∧s2.2<(p0.length:Int)) ((if(p1==(rdL p0 s2.2))=true then some (.inr (.inl (s2.2,s2.2)))else some (.inl (s2.1,w64 (s2.2+1)))))else some (.inr (.inr (s2.1,s2.2))))
theorem lh (f:Nat) (p0:(List Int)) (p1:Int) (s2:(Int × Int)):LeO (eB f p0 p1 s2) (bl p0 p1 s2):=by
 unfold eB bl
 repeat' first
  | with_reducible first|apply LeO.bind|apply LeO.guard|apply LeO.ite|apply LeO.loop|apply LeO.fold|exact LeO.refl _
  | (intro(u:Sum _ _);cases u <;> dsimp only)
  | intro _
def fW (f:Nat) (p0:(List Int)) (p1:Int):Option Int :=
 ((gJ f (eB f p0 p1) (0,0)).bind fun u3=>match u3 with|(.inl u8)=>some u8.1|(.inr u9)=>some (-1))
theorem lY (f:Nat) (p0:(List Int)) (p1:Int):LeO (fW f p0 p1) (bZ p0 p1):=by
 unfold fW bZ
 repeat' first
  | with_reducible first|apply LeO.bind|apply lh|apply LeO.guard|apply LeO.ite|apply LeO.loop|apply LeO.fold|exact LeO.refl _
  | (intro(u:Sum _ _);cases u <;> dsimp only)
  | intro _
def da (f:Nat) (p0:(List Int)) (p1:Int):Option Bool :=
 ((fW f p0 p1).bind fun y1=>some (decide (0≤y1)))
theorem gy (f:Nat) (p0:(List Int)) (p1:Int):LeO (da f p0 p1) (a5 p0 p1):=by
 unfold da a5
 repeat' first
  | with_reducible first|apply LeO.bind|apply lY|apply LeO.guard|apply LeO.ite|apply LeO.loop|apply LeO.fold|exact LeO.refl _
  | (intro(u:Sum _ _);cases u <;> dsimp only)
  | intro _
def j9 (f:Nat) (p0:Int) (p1:Int) (cap0:TL) (cap1:TN):Option Bool :=
 ac ((0:Int)≤p0∧p0<(cap0.fC.length:Int)) (ac ((0:Int)≤p1∧p1<(((rdL cap0.fC p0).fO.length:Nat):Int)) (some (((rdL ((rdL cap0.fC p0).fO) p1).fTo) !=cap1.fID)))
theorem po (f:Nat) (p0:Int) (p1:Int) (cap0:TL) (cap1:TN):LeO (j9 f p0 p1 cap0 cap1) (fM p0 p1 cap0 cap1):=by
 unfold j9 fM
 repeat' first
  | with_reducible first|apply LeO.bind|apply LeO.guard|apply LeO.ite|apply LeO.loop|apply LeO.fold|exact LeO.refl _
  | (intro(u:Sum _ _);cases u <;> dsimp only)
  | intro _
def jm (f:Nat) (p0:TL) (p1:(List Int)) (p2:Int) (s12:(Int × (List Int))):Option ((Int × (List Int)) ⊕ (Int × (List Int))) :=
 (if decide (s12.1<(p0.fNo.length:Int))=true then ac ((0:Int)≤s12.1∧s12.1<(p0.fNo.length:Int)) (((if(((rdL p0.fNo s12.1).fID)==p2)=true then(some (true))else((da f p1 ((rdL p0.fNo s12.1).fID)).bind fun y30=>some (y30))).bind fun b18=>(if b18=true then some (.inl (w64 (s12.1+1),s12.2))else((eA f p0 p1 p2 (fun x21 x22=>j9 f x21 x22 p0 (TN.mk ((rdL p0.fNo s12.1).fID) ((rdL p0.fNo s12.1).fLevel) ((rdL p0.fNo s12.1).fCost)))).bind fun y23=>(if(!y23)=true then ac (s12.2.length+1≤1000000000) (some (.inl (w64 (s12.1+1),(s12.2++[(rdL p0.fNo s12.1).fID]))))else some (.inl (w64 (s12.1+1),s12.2)))))))else some (.inr (s12.1,s12.2)))
theorem ny (f:Nat) (p0:TL) (p1:(List Int)) (p2:Int) (s12:(Int × (List Int))):LeO (jm f p0 p1 p2 s12) (iI p0 p1 p2 s12):=by
 unfold jm iI
 repeat' first
  | with_reducible first|apply LeO.bind|apply po|apply gj|apply gy|apply LeO.guard|apply LeO.ite|apply LeO.loop|apply LeO.fold|exact LeO.refl _
  | (intro(u:Sum _ _);cases u <;> dsimp only)
  | intro _
def lE (f:Nat) (p0:TL) (p1:(List Int)) (p2:Int):Option ((List Int) × Int) :=
 ((ed f p0 p1 p2).bind fun y2=>(if(y2 !=0)=true then some ([],y2)else((eA f p0 p1 p2 (fun x5 x6=>f5 f x5 x6)).bind fun y7=>(if(!y7)=true then some ([],5)else((gJ f (jm f p0 p1 p2) (0,([]:List Int))).bind fun u13=>((bP u13.2).bind fun y33=>some (y33,0)))))))
theorem qd (f:Nat) (p0:TL) (p1:(List Int)) (p2:Int):LeO (lE f p0 p1 p2) (jX p0 p1 p2):=by
 unfold lE jX
 repeat' first
  | with_reducible first|apply LeO.bind|apply ny|apply kO|apply gp|apply gj|apply LeO.guard|apply LeO.ite|apply LeO.loop|apply LeO.fold|exact LeO.refl _
  | (intro(u:Sum _ _);cases u <;> dsimp only)
  | intro _
def jr (f:Nat) (p0:TL) (p1:(List Int)) (p2:Int) (s23:(Int × Int)) (x24:(List Int)):Option ((Int × Int) ⊕ Unit) :=
 ((gh f x24).bind fun y27=>((eJ f p0 p1 (fun x29 x30=>em f x24 x29 x30)).bind fun y31=>ac (dx p2=true) ((if ax false y31 p2=true then some (.inl (w64 (s23.1+1),w64 (s23.2+1)))else some (.inl (s23.1,w64 (s23.2+1)))))))
theorem oE (f:Nat) (p0:TL) (p1:(List Int)) (p2:Int) (s23:(Int × Int)) (x24:(List Int)):LeO (jr f p0 p1 p2 s23 x24) (iE p0 p1 p2 s23 x24):=by
 unfold jr iE
 repeat' first
  | with_reducible first|apply LeO.bind|apply gY|apply ke|apply gc|apply LeO.guard|apply LeO.ite|apply LeO.loop|apply LeO.fold|exact LeO.refl _
  | (intro(u:Sum _ _);cases u <;> dsimp only)
  | intro _
def jy (f:Nat) (s40:(Int × Int)):Option ((Int × Int) ⊕ (Int × Int)) :=
 (if decide (0<s40.2)=true then ac (s40.2≠0) (some (.inl (s40.2,Int.tmod s40.1 s40.2)))else some (.inr (s40.1,s40.2)))
theorem nu (f:Nat) (s40:(Int × Int)):LeO (jy f s40) (iK s40):=by
 unfold jy iK
 repeat' first
  | with_reducible first|apply LeO.bind|apply LeO.guard|apply LeO.ite|apply LeO.loop|apply LeO.fold|exact LeO.refl _
  | (intro(u:Sum _ _);cases u <;> dsimp only)
  | intro _
def lD (f:Nat) (p0:TL) (p1:(List Int)) (p2:Int):Option (TRatio × Int) :=
 ((ed f p0 p1 p2).bind fun y5=>(if(y5 !=0)=true then some ((TRatio.mk 0 0),y5)else((eC f p0).bind fun y10=>(ac (cq p0) ((gA (jr f p0 p1 p2) (sCs p0) (0,0)).bind fun u25=>match u25 with|.inl u38=>((gJ f (jy f) (u38.1,u38.2)).bind fun u41=>ac (u41.1≠0) (ac (u41.1≠0) (some ((TRatio.mk (w64 (Int.tdiv u38.1 u41.1)) (w64 (Int.tdiv u38.2 u41.1))),0))))|.inr _=>none)))))
theorem qc (f:Nat) (p0:TL) (p1:(List Int)) (p2:Int):LeO (lD f p0 p1 p2) (jH p0 p1 p2):=by
 unfold lD jH
 repeat' first
  | with_reducible first|apply LeO.bind|apply nu|apply oE|apply gp|apply f8|apply LeO.guard|apply LeO.ite|apply LeO.loop|apply LeO.fold|exact LeO.refl _
  | (intro(u:Sum _ _);cases u <;> dsimp only)
  | intro _
def lC (f:Nat) (p0:TL) (p1:(List Int)):Option Int :=
 ((cv f p0 p1).bind fun y2=>((gu f p0 p1).bind fun y5=>((gI f p0 (tc y5 y2)).bind fun y23=>some y23.2)))
theorem qm (f:Nat) (p0:TL) (p1:(List Int)):LeO (lC f p0 p1) (jK p0 p1):=by
 unfold lC jK
 repeat' first
  | with_reducible first|apply LeO.bind|apply ez|apply jF|apply mB|apply LeO.guard|apply LeO.ite|apply LeO.loop|apply LeO.fold|exact LeO.refl _
  | (intro(u:Sum _ _);cases u <;> dsimp only)
  | intro _
def dV (f:Nat) (p0:(List TH)):Option (List TH) :=
 ac (0+p0.length≤1000000000) (some (([]:List TH)++p0))
theorem iq (f:Nat) (p0:(List TH)):LeO (dV f p0) (bp p0):=by
 unfold dV bp
 repeat' first
  | with_reducible first|apply LeO.bind|apply LeO.guard|apply LeO.ite|apply LeO.loop|apply LeO.fold|exact LeO.refl _
  | (intro(u:Sum _ _);cases u <;> dsimp only)
  | intro _
def eZ (f:Nat) (p0:(List TN)):Option (List TN) :=
 ac (0+p0.length≤1000000000) (some (([]:List TN)++p0))
theorem ly (f:Nat) (p0:(List TN)):LeO (eZ f p0) (ch p0):=by
 unfold eZ ch
 repeat' first
  | with_reducible first|apply LeO.bind|apply LeO.guard|apply LeO.ite|apply LeO.loop|apply LeO.fold|exact LeO.refl _
  | (intro(u:Sum _ _);cases u <;> dsimp only)
  | intro _
def d7 (f:Nat) (p0:(List TC)):Option (List TC) :=
 ac (0+p0.length≤1000000000) (some (([]:List TC)++p0))
theorem kG (f:Nat) (p0:(List TC)):LeO (d7 f p0) (a7 p0):=by
 unfold d7 a7
 repeat' first
  | with_reducible first|apply LeO.bind|apply LeO.guard|apply LeO.ite|apply LeO.loop|apply LeO.fold|exact LeO.refl _
  | (intro(u:Sum _ _);cases u <;> dsimp only)
  | intro _
def iT (f:Nat) (y10:(List TC)) (s22:(Int × (List TC))):Option ((Int × (List TC)) ⊕ (Int × (List TC))) :=
 (if decide (s22.1<(y10.length:Int))=true then ac ((0:Int)≤s22.1∧s22.1<(y10.length:Int)) (((dV f ((rdL s22.2 s22.1).fO)).bind fun y26=>ac ((0:Int)≤s22.1∧s22.1<(y10.length:Int)) (some (.inl (w64 (s22.1+1),(s22.2.set (Int.toNat s22.1) (TC.mk ((rdL s22.2 s22.1).fID) y26)))))))else some (.inr (s22.1,s22.2)))
theorem np (f:Nat) (y10:(List TC)) (s22:(Int × (List TC))):LeO (iT f y10 s22) (cU y10 s22):=by
 unfold iT cU
 repeat' first
  | with_reducible first|apply LeO.bind|apply iq|apply LeO.guard|apply LeO.ite|apply LeO.loop|apply LeO.fold|exact LeO.refl _
  | (intro(u:Sum _ _);cases u <;> dsimp only)
  | intro _
def kx (f:Nat) (p0:TL):Option TL :=
 ((eZ f p0.fNo).bind fun y4=>((d7 f p0.fC).bind fun y10=>((gJ f (iT f y10) (0,y10)).bind fun u23=>some (TL.mk y4 u23.2))))
theorem pD (f:Nat) (p0:TL):LeO (kx f p0) (cJ p0):=by
 unfold kx cJ
 repeat' first
  | with_reducible first|apply LeO.bind|apply np|apply kG|apply ly|apply LeO.guard|apply LeO.ite|apply LeO.loop|apply LeO.fold|exact LeO.refl _
  | (intro(u:Sum _ _);cases u <;> dsimp only)
  | intro _
def md (f:Nat) (p0:TL) (p1:Int) (p2:(List TH)):Option TL :=
 ((kx f p0).bind fun y3=>((dV f p2).bind fun y22=>ac ((0:Int)≤p1∧p1<(y3.fC.length:Int)) (some (TL.mk y3.fNo (y3.fC.set (Int.toNat p1) (TC.mk ((rdL y3.fC p1).fID) y22))))))
theorem qX (f:Nat) (p0:TL) (p1:Int) (p2:(List TH)):LeO (md f p0 p1 p2) (fi p0 p1 p2):=by
 unfold md fi
 repeat' first
  | with_reducible first|apply LeO.bind|apply pD|apply iq|apply LeO.guard|apply LeO.ite|apply LeO.loop|apply LeO.fold|exact LeO.refl _
  | (intro(u:Sum _ _);cases u <;> dsimp only)
  | intro _
def cl (f:Nat) (p0:(List Tasking)) (p1:Tasking→Tasking→Option Bool) (s5:(Int × Int × Int)):Option ((Int × Int × Int) ⊕ (Int × Int × Int)) :=
 (if decide (s5.1<(p0.length:Int))=true then ac ((0:Int)≤s5.1∧s5.1<(p0.length:Int)) (((if(s5.1==0)=true then(some (true))else((p1 (Tasking.mk ((rdL p0 s5.1).f_id) ((rdL p0 s5.1).f_left)) (Tasking.mk s5.2.1 s5.2.2)).bind fun y14=>some (y14))).bind fun b11=>(if b11=true then some (.inl (w64 (s5.1+1),(rdL p0 s5.1).f_id,(rdL p0 s5.1).f_left))else some (.inl (w64 (s5.1+1),s5.2.1,s5.2.2)))))else some (.inr (s5.1,s5.2.1,s5.2.2)))
theorem gB (f:Nat) (p0:(List Tasking)) (p1 p1':Tasking→Tasking→Option Bool) (hp1_less:∀x0 x1,LeO (p1 x0 x1) (p1' x0 x1)) (s5:(Int × Int × Int)):LeO (cl f p0 p1 s5) (bL p0 p1' s5):=by
 unfold cl bL
 repeat' first
  | with_reducible first|apply LeO.bind|apply hp1_less|apply LeO.guard|apply LeO.ite|apply LeO.loop|apply LeO.fold|exact LeO.refl _
  | (intro(u:Sum _ _);cases u <;> dsimp only)
  | intro _
def cH (f:Nat) (p0:(List Tasking)) (p1:Tasking→Tasking→Option Bool):Option (Tasking × Bool) :=
 ((gJ f (cl f p0 p1) (0,0,0)).bind fun u6=>some ((Tasking.mk u6.2.1 u6.2.2),decide (0<(p0.length:Int))))
theorem im (f:Nat) (p0:(List Tasking)) (p1 p1':Tasking→Tasking→Option Bool) (hp1_less:∀x0 x1,LeO (p1 x0 x1) (p1' x0 x1)):LeO (cH f p0 p1) (bv p0 p1'):=by
 unfold cH bv
 repeat' first
  | with_reducible first|apply LeO.bind|apply hp1_less|apply gB|apply LeO.guard|apply LeO.ite|apply LeO.loop|apply LeO.fold|exact LeO.refl _
  | (intro(u:Sum _ _);cases u <;> dsimp only)
  | intro _
def lF (f:Nat) (p0:Tasking) (p1:Tasking):Option Bool :=
 some ((decide (p0.f_left<p1.f_left))||((p0.f_left==p1.f_left)&&(decide (p0.f_id<p1.f_id))))
theorem qB (f:Nat) (p0:Tasking) (p1:Tasking):LeO (lF f p0 p1) (ie p0 p1):=by
 unfold lF ie
 repeat' first
  | with_reducible first|apply LeO.bind|apply LeO.guard|apply LeO.ite|apply LeO.loop|apply LeO.fold|exact LeO.refl _
  | (intro(u:Sum _ _);cases u <;> dsimp only)
  | intro _
def kK (f:Nat) (p0:TL) (p1:(List Int)) (s7:(Int × (List Tasking))) (s16:(Int × Int)):Option ((Int × Int) ⊕ (Int × Int)) :=
 (if decide (s16.1<(((rdL p0.fC s7.1).fO.length:Nat):Int))=true then ac ((0:Int)≤s16.1∧s16.1≤w64 (s16.1+1)∧w64 (s16.1+1)≤w64 (s16.1+1)∧w64 (s16.1+1)≤(((rdL p0.fC s7.1).fO.length:Nat):Int)) (((md f p0 s7.1 ((((rdL p0.fC s7.1).fO).drop (Int.toNat s16.1)).take (Int.toNat (w64 (s16.1+1))-Int.toNat s16.1))).bind fun y20=>((lC f y20 p1).bind fun y34=>some (.inl (w64 (s16.1+1),max s16.2 y34)))))else some (.inr (s16.1,s16.2)))
theorem pI (f:Nat) (p0:TL) (p1:(List Int)) (s7:(Int × (List Tasking))) (s16:(Int × Int)):LeO (kK f p0 p1 s7 s16) (kh p0 p1 s7 s16):=by
 unfold kK kh
 repeat' first
  | with_reducible first|apply LeO.bind|apply qm|apply qX|apply LeO.guard|apply LeO.ite|apply LeO.loop|apply LeO.fold|exact LeO.refl _
  | (intro(u:Sum _ _);cases u <;> dsimp only)
  | intro _
def kQ (f:Nat) (p0:TL) (p1:(List Int)) (s7:(Int × (List Tasking))):Option ((Int × (List Tasking)) ⊕ (Int × (List Tasking))) :=
 (if decide (s7.1<(p0.fC.length:Int))=true then ac ((0:Int)≤s7.1∧s7.1<(p0.fC.length:Int)) ((if decide ((((rdL p0.fC s7.1).fO.length:Nat):Int)<2)=true then some (.inl (w64 (s7.1+1),s7.2))else((gJ f (kK f p0 p1 s7) (0,0)).bind fun u17=>ac (s7.2.length+1≤1000000000) (some (.inl (w64 (s7.1+1),(s7.2++[(Tasking.mk ((rdL p0.fC s7.1).fID) u17.2)])))))))else some (.inr (s7.1,s7.2)))
theorem pS (f:Nat) (p0:TL) (p1:(List Int)) (s7:(Int × (List Tasking))):LeO (kQ f p0 p1 s7) (ko p0 p1 s7):=by
 unfold kQ ko
 repeat' first
  | with_reducible first|apply LeO.bind|apply pI|apply LeO.guard|apply LeO.ite|apply LeO.loop|apply LeO.fold|exact LeO.refl _
  | (intro(u:Sum _ _);cases u <;> dsimp only)
  | intro _
def mG (f:Nat) (p0:TL) (p1:(List Int)):Option (Int × Int × Int) :=
 ((eM f p0 p1).bind fun y2=>(if(y2 !=0)=true then some (0,0,y2)else((gJ f (kQ f p0 p1) (0,([]:List Tasking))).bind fun u8=>((cH f u8.2 (fun x54 x55=>lF f x54 x55)).bind fun y56=>(if(!y56.2)=true then some (0,0,5)else some (y56.1.f_id,y56.1.f_left,0))))))
theorem rD (f:Nat) (p0:TL) (p1:(List Int)):LeO (mG f p0 p1) (lN p0 p1):=by
 unfold mG lN
 repeat' first
  | with_reducible first|apply LeO.bind|apply qB|apply pS|apply ge|apply im|apply LeO.guard|apply LeO.ite|apply LeO.loop|apply LeO.fold|exact LeO.refl _
  | (intro(u:Sum _ _);cases u <;> dsimp only)
  | intro _
def kb (f:Nat) (p0:Int) (p1:Int) (cap0:(List (Int × Bool))) (cap1:TL):Option Bool :=
 ac ((0:Int)≤p0∧p0<(cap1.fC.length:Int)) (ac (dx ((rdL cap1.fC p0).fID)=true) (some (!(ax false cap0 ((rdL cap1.fC p0).fID)))))
theorem o5 (f:Nat) (p0:Int) (p1:Int) (cap0:(List (Int × Bool))) (cap1:TL):LeO (kb f p0 p1 cap0 cap1) (fH p0 p1 cap0 cap1):=by
 unfold kb fH
 repeat' first
  | with_reducible first|apply LeO.bind|apply LeO.guard|apply LeO.ite|apply LeO.loop|apply LeO.fold|exact LeO.refl _
  | (intro(u:Sum _ _);cases u <;> dsimp only)
  | intro _
def lr (f:Nat) (p0:TL) (p1:(List Int)) (p2:Int) (p3:(List (Int × Bool))):Option Bool :=
 ((eA f p0 p1 p2 (fun x3 x4=>kb f x3 x4 p3 p0)).bind fun y5=>some (!y5))
theorem qh (f:Nat) (p0:TL) (p1:(List Int)) (p2:Int) (p3:(List (Int × Bool))):LeO (lr f p0 p1 p2 p3) (jY p0 p1 p2 p3):=by
 unfold lr jY
 repeat' first
  | with_reducible first|apply LeO.bind|apply o5|apply gj|apply LeO.guard|apply LeO.ite|apply LeO.loop|apply LeO.fold|exact LeO.refl _
  | (intro(u:Sum _ _);cases u <;> dsimp only)
  | intro _
def kL (f:Nat) (p0:TL) (s11:(Int × (List (Int × Bool)))):Option ((Int × (List (Int × Bool))) ⊕ (Int × (List (Int × Bool)))) :=
 (if decide (s11.1<(p0.fC.length:Int))=true then ac ((0:Int)≤s11.1∧s11.1<(p0.fC.length:Int)) (ac (dx ((rdL p0.fC s11.1).fID)=true∧List.length s11.2<1000000000) (some (.inl (w64 (s11.1+1),(((rdL p0.fC s11.1).fID,true)::s11.2)))))else some (.inr (s11.1,s11.2)))
theorem pG (f:Nat) (p0:TL) (s11:(Int × (List (Int × Bool)))):LeO (kL f p0 s11) (kj p0 s11):=by
 unfold kL kj
 repeat' first
  | with_reducible first|apply LeO.bind|apply LeO.guard|apply LeO.ite|apply LeO.loop|apply LeO.fold|exact LeO.refl _
  | (intro(u:Sum _ _);cases u <;> dsimp only)
  | intro _
def kN (f:Nat) (p0:TL) (p1:(List Int)) (p2:Int) (y18:(List Int)) (s26:(Int × (List (Int × Bool)))):Option ((Int × (List (Int × Bool))) ⊕ (Int × (List (Int × Bool)))) :=
 (if decide (s26.1<(y18.length:Int))=true then ac ((0:Int)≤s26.1∧s26.1<(y18.length:Int)) (ac (dx (rdL y18 s26.1)=true∧List.length s26.2<1000000000) (((lr f p0 p1 p2 (((rdL y18 s26.1),false)::s26.2)).bind fun y31=>(if(!y31)=true then ac (dx (rdL y18 s26.1)=true∧List.length (((rdL y18 s26.1),false)::s26.2)<1000000000) (some (.inl (w64 (s26.1+1),(((rdL y18 s26.1),true)::(((rdL y18 s26.1),false)::s26.2)))))else some (.inl (w64 (s26.1+1),(((rdL y18 s26.1),false)::s26.2)))))))else some (.inr (s26.1,s26.2)))
theorem pJ (f:Nat) (p0:TL) (p1:(List Int)) (p2:Int) (y18:(List Int)) (s26:(Int × (List (Int × Bool)))):LeO (kN f p0 p1 p2 y18 s26) (kr p0 p1 p2 y18 s26):=by
 unfold kN kr
 repeat' first
  | with_reducible first|apply LeO.bind|apply qh|apply LeO.guard|apply LeO.ite|apply LeO.loop|apply LeO.fold|exact LeO.refl _
  | (intro(u:Sum _ _);cases u <;> dsimp only)
  | intro _
def mA (f:Nat) (p0:TL) (p1:(List Int)) (p2:Int):Option ((List Int) × Int) :=
 ((ed f p0 p1 p2).bind fun y2=>(if(y2 !=0)=true then some ([],y2)else((da f p1 p2).bind fun y5=>(if y5=true then some ([],5)else((gJ f (kL f p0) (0,[])).bind fun u12=>((bo u12.2).bind fun y18=>((gJ f (kN f p0 p1 p2 y18) (0,u12.2)).bind fun u27=>((bo u27.2).bind fun y36=>some (y36,0)))))))))
theorem rP (f:Nat) (p0:TL) (p1:(List Int)) (p2:Int):LeO (mA f p0 p1 p2) (lU p0 p1 p2):=by
 unfold mA lU
 repeat' first
  | with_reducible first|apply LeO.bind|apply pG|apply pJ|apply gp|apply gy|apply LeO.guard|apply LeO.ite|apply LeO.loop|apply LeO.fold|exact LeO.refl _
  | (intro(u:Sum _ _);cases u <;> dsimp only)
  | intro _
def kE (f:Nat) (p0:TL) (p1:(List Int)):Option ((List Int) × Int) :=
 ((eM f p0 p1).bind fun y2=>(if(y2 !=0)=true then some ([],y2)else((gu f p0 p1).bind fun y5=>((bo y5).bind fun y8=>some (y8,0)))))
theorem pC (f:Nat) (p0:TL) (p1:(List Int)):LeO (kE f p0 p1) (eo p0 p1):=by
 unfold kE eo
 repeat' first
  | with_reducible first|apply LeO.bind|apply ge|apply jF|apply LeO.guard|apply LeO.ite|apply LeO.loop|apply LeO.fold|exact LeO.refl _
  | (intro(u:Sum _ _);cases u <;> dsimp only)
  | intro _
def jz (f:Nat) (p0:TL) (p1:(List Int)):Option ((List Int) × Int) :=
 ((eM f p0 p1).bind fun y2=>(if(y2 !=0)=true then some ([],y2)else((cv f p0 p1).bind fun y5=>((bo y5).bind fun y8=>some (y8,0)))))
theorem nY (f:Nat) (p0:TL) (p1:(List Int)):LeO (jz f p0 p1) (de p0 p1):=by
 unfold jz de
 repeat' first
  | with_reducible first|apply LeO.bind|apply ge|apply ez|apply LeO.guard|apply LeO.ite|apply LeO.loop|apply LeO.fold|exact LeO.refl _
  | (intro(u:Sum _ _);cases u <;> dsimp only)
  | intro _
def g4 (f:Nat)  : Option TL :=
 some (TL.mk [(TN.mk 1 0 0),(TN.mk 2 0 0),(TN.mk 3 3 0),(TN.mk 4 3 0),(TN.mk 5 9 10),(TN.mk 6 9 7)] [(TC.mk 11 [(TH.mk 1 3)]),(TC.mk 12 [(TH.mk 1 4),(TH.mk 2 4)]),(TC.mk 13 [(TH.mk 3 5)]),(TC.mk 14 [(TH.mk 4 5),(TH.mk 4 6)])])
theorem m7 (f:Nat):LeO (g4 f) (eW):=by
 unfold g4 eW
 repeat' first
  | with_reducible first|apply LeO.bind|apply LeO.guard|apply LeO.ite|apply LeO.loop|apply LeO.fold|exact LeO.refl _
  | (intro(u:Sum _ _);cases u <;> dsimp only)
  | intro _
def jw (f:Nat) (s19:Int) (x20:(List Int)):Option (Int ⊕ Unit) :=
 some (.inl (w64 (s19+1)))
theorem ol (f:Nat) (s19:Int) (x20:(List Int)):LeO (jw f s19 x20) (iG s19 x20):=by
 unfold jw iG
 repeat' first
  | with_reducible first|apply LeO.bind|apply LeO.guard|apply LeO.ite|apply LeO.loop|apply LeO.fold|exact LeO.refl _
  | (intro(u:Sum _ _);cases u <;> dsimp only)
  | intro _
def lA (f:Nat) (p0:TL):Option (Int × Int) :=
 ((gO f p0).bind fun y2=>(if(y2 !=0)=true then some (0,y2)else((eC f p0).bind fun y6=>(ac (cq p0) ((gA (jw f) (sCs p0) 0).bind fun u21=>match u21 with|.inl u24=>some (u24,0)|.inr _=>none)))))
theorem p6 (f:Nat) (p0:TL):LeO (lA f p0) (jQ p0):=by
 unfold lA jQ
 repeat' first
  | with_reducible first|apply LeO.bind|apply ol|apply ld|apply f8|apply LeO.guard|apply LeO.ite|apply LeO.loop|apply LeO.fold|exact LeO.refl _
  | (intro(u:Sum _ _);cases u <;> dsimp only)
  | intro _
def mp (f:Nat)  : Option Bool :=
 ((g4 f).bind fun y1=>((lA f y1).bind fun y20=>((kE f y1 [1]).bind fun y23=>((jz f y1 [2]).bind fun y30=>((lI f y1 [1] 6).bind fun y37=>((lE f y1 [1] 6).bind fun y44=>((mA f y1 [1] 5).bind fun y51=>((lD f y1 [2] 5).bind fun y58=>((kF f y1 [1] false).bind fun y62=>((mG f y1 [1]).bind fun y69=>((j4 f y1 5).bind fun y71=>(if((((((((((y20.2 !=0)||(y23.2 !=0))||(y30.2 !=0))||(y37.2 !=0))||(y44.2 !=0))||(y51.2 !=0))||(y58.2 !=0))||(y62.2.2 !=0))||(y69.2.2 !=0))||(y71.2.2 !=0))=true then some false else((bS f y23.1 [1,3,5]).bind fun y92=>((if y92=true then((bS f y30.1 [2,4,5,6]).bind fun y137=>some (y137))else(some (false))).bind fun b95=>((if b95=true then((bS f y37.1 [12,14]).bind fun y134=>some (y134))else(some (false))).bind fun b98=>((if b98=true then((bS f y44.1 [4]).bind fun y131=>some (y131))else(some (false))).bind fun b101=>((bS f y51.1 [13,14]).bind fun y104=>((if y104=true then((bS f y62.1 [5,6]).bind fun y128=>some (y128))else(some (false))).bind fun b107=>((if b107=true then((bS f y71.1 [1]).bind fun y125=>some (y125))else(some (false))).bind fun b110=>((if b110=true then((bS f y71.2.1 [1,2]).bind fun y122=>some (y122))else(some (false))).bind fun b113=>some ((((((b101&&b113)&&(y20.1==4))&&((y58.1.fNum==1)&&(y58.1.fDen==4)))&&(y62.2.1==17))&&(y69.1==12))&&(y69.2.1==7))))))))))))))))))))))
theorem pd (f:Nat):LeO (mp f) (fR):=by
 unfold mp fR
 repeat' first
  | with_reducible first|apply LeO.bind|apply m7|apply pn|apply rD|apply p6|apply rP|apply qd|apply qk|apply pg|apply nY|apply pA|apply qc|apply pC|apply LeO.guard|apply LeO.ite|apply LeO.loop|apply LeO.fold|exact LeO.refl _
  | (intro(u:Sum _ _);cases u <;> dsimp only)
  | intro _
end Go.Proofs.YtbblpokfbmekfaaGreat
