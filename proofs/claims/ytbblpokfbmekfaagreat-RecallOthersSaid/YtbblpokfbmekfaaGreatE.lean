import Derived.Test.YtbblpokfbmekfaaGreatP
set_option maxRecDepth 100000
set_option maxHeartbeats 4000000
set_option linter.unusedVariables false
namespace Go.Proofs.YtbblpokfbmekfaaGreat
def cX (f:Nat) (p0:(List TN)) (p1:TN→Option Bool) (s2:(Int × Int)):Option ((Int × Int) ⊕ ((Int × Int) ⊕ (Int × Int))) :=
 (if decide (s2.2<(p0.length:Int))=true then ac ((0:Int)≤s2.2∧s2.2<(p0.length:Int)) (((p1 (TN.mk ((rdL p0 s2.2).fID) ((rdL p0 s2.2).fLevel) ((rdL p0 s2.2).fCost))).bind fun y6=>(if y6=true then some (.inr (.inl (s2.2,s2.2)))else some (.inl (s2.1,w64 (s2.2+1))))))else some (.inr (.inr (s2.1,s2.2))))
theorem iV (f:Nat) (p0:(List TN)) (p1 p1':TN→Option Bool) (hp1_f:∀x,LeO (p1 x) (p1' x)) (s2:(Int × Int)):LeO (cX f p0 p1 s2) (aQ p0 p1' s2):=by
 unfold cX aQ
 repeat' first
  | with_reducible first|apply LeO.bind|apply hp1_f|apply LeO.guard|apply LeO.ite|apply LeO.loop|apply LeO.fold|exact LeO.refl _
  | (intro(u:Sum _ _);cases u <;> dsimp only)
  | intro _
def dF (f:Nat) (p0:(List TN)) (p1:TN→Option Bool):Option Int :=
 ((gP f (cX f p0 p1) (0,0)).bind fun u3=>match u3 with|(.inl u10)=>some u10.1|(.inr u11)=>some (-1))
theorem kd (f:Nat) (p0:(List TN)) (p1 p1':TN→Option Bool) (hp1_f:∀x,LeO (p1 x) (p1' x)):LeO (dF f p0 p1) (be p0 p1'):=by
 unfold dF be
 repeat' first
  | with_reducible first|apply LeO.bind|apply hp1_f|apply iV|apply LeO.guard|apply LeO.ite|apply LeO.loop|apply LeO.fold|exact LeO.refl _
  | (intro(u:Sum _ _);cases u <;> dsimp only)
  | intro _
def ju (f:Nat) (p0:TN) (cap0:Int):Option Bool :=
 some (p0.fID==cap0)
theorem ow (f:Nat) (p0:TN) (cap0:Int):LeO (ju f p0 cap0) (dT p0 cap0):=by
 unfold ju dT
 repeat' first
  | with_reducible first|apply LeO.bind|apply LeO.guard|apply LeO.ite|apply LeO.loop|apply LeO.fold|exact LeO.refl _
  | (intro(u:Sum _ _);cases u <;> dsimp only)
  | intro _
def di (f:Nat) (p0:TL) (p1:Int):Option Int :=
 ((dF f p0.fNo (fun x3=>ju f x3 p1)).bind fun y4=>some y4)
theorem fx (f:Nat) (p0:TL) (p1:Int):LeO (di f p0 p1) (bV p0 p1):=by
 unfold di bV
 repeat' first
  | with_reducible first|apply LeO.bind|apply ow|apply kd|apply LeO.guard|apply LeO.ite|apply LeO.loop|apply LeO.fold|exact LeO.refl _
  | (intro(u:Sum _ _);cases u <;> dsimp only)
  | intro _
def cL (f:Nat) (p0:(List TC)) (p1:TC→Option Bool) (s2:(Int × Int)):Option ((Int × Int) ⊕ ((Int × Int) ⊕ (Int × Int))) :=
 (if decide (s2.2<(p0.length:Int))=true then ac ((0:Int)≤s2.2∧s2.2<(p0.length:Int)) (((p1 (TC.mk ((rdL p0 s2.2).fID) ((rdL p0 s2.2).fO))).bind fun y6=>(if y6=true then some (.inr (.inl (s2.2,s2.2)))else some (.inl (s2.1,w64 (s2.2+1))))))else some (.inr (.inr (s2.1,s2.2))))
theorem ik (f:Nat) (p0:(List TC)) (p1 p1':TC→Option Bool) (hp1_f:∀x,LeO (p1 x) (p1' x)) (s2:(Int × Int)):LeO (cL f p0 p1 s2) (aM p0 p1' s2):=by
 unfold cL aM
 repeat' first
  | with_reducible first|apply LeO.bind|apply hp1_f|apply LeO.guard|apply LeO.ite|apply LeO.loop|apply LeO.fold|exact LeO.refl _
  | (intro(u:Sum _ _);cases u <;> dsimp only)
  | intro _
def dj (f:Nat) (p0:(List TC)) (p1:TC→Option Bool):Option Int :=
 ((gP f (cL f p0 p1) (0,0)).bind fun u3=>match u3 with|(.inl u10)=>some u10.1|(.inr u11)=>some (-1))
theorem jk (f:Nat) (p0:(List TC)) (p1 p1':TC→Option Bool) (hp1_f:∀x,LeO (p1 x) (p1' x)):LeO (dj f p0 p1) (aR p0 p1'):=by
 unfold dj aR
 repeat' first
  | with_reducible first|apply LeO.bind|apply hp1_f|apply ik|apply LeO.guard|apply LeO.ite|apply LeO.loop|apply LeO.fold|exact LeO.refl _
  | (intro(u:Sum _ _);cases u <;> dsimp only)
  | intro _
def js (f:Nat) (p0:TC) (cap0:Int):Option Bool :=
 some (p0.fID==cap0)
theorem ny (f:Nat) (p0:TC) (cap0:Int):LeO (js f p0 cap0) (dM p0 cap0):=by
 unfold js dM
 repeat' first
  | with_reducible first|apply LeO.bind|apply LeO.guard|apply LeO.ite|apply LeO.loop|apply LeO.fold|exact LeO.refl _
  | (intro(u:Sum _ _);cases u <;> dsimp only)
  | intro _
def kL (f:Nat) (p0:TL) (p1:Int):Option Int :=
 ((dj f p0.fC (fun x3=>js f x3 p1)).bind fun y4=>some y4)
theorem pQ (f:Nat) (p0:TL) (p1:Int):LeO (kL f p0 p1) (cZ p0 p1):=by
 unfold kL cZ
 repeat' first
  | with_reducible first|apply LeO.bind|apply ny|apply jk|apply LeO.guard|apply LeO.ite|apply LeO.loop|apply LeO.fold|exact LeO.refl _
  | (intro(u:Sum _ _);cases u <;> dsimp only)
  | intro _
def dS (f:Nat) (p0:Int) (p1:Int) (p2:Int):Option Bool :=
 some ((decide (p1≤p0))&&(decide (p0≤p2)))
theorem jZ (f:Nat) (p0:Int) (p1:Int) (p2:Int):LeO (dS f p0 p1 p2) (co p0 p1 p2):=by
 unfold dS co
 repeat' first
  | with_reducible first|apply LeO.bind|apply LeO.guard|apply LeO.ite|apply LeO.loop|apply LeO.fold|exact LeO.refl _
  | (intro(u:Sum _ _);cases u <;> dsimp only)
  | intro _
def eE (f:Nat) (p0:(List TH)) (p1:TH) (s3:(Int × Int)):Option ((Int × Int) ⊕ ((Int × Int) ⊕ (Int × Int))) :=
 (if decide (s3.2<(p0.length:Int))=true then ac ((0:Int)≤s3.2∧s3.2<(p0.length:Int)) ((if((p1.fFrom==(rdL p0 s3.2).fFrom)&&(p1.fTo==(rdL p0 s3.2).fTo))=true then some (.inr (.inl (s3.2,s3.2)))else some (.inl (s3.1,w64 (s3.2+1)))))else some (.inr (.inr (s3.1,s3.2))))
theorem lg (f:Nat) (p0:(List TH)) (p1:TH) (s3:(Int × Int)):LeO (eE f p0 p1 s3) (bk p0 p1 s3):=by
 unfold eE bk
 repeat' first
  | with_reducible first|apply LeO.bind|apply LeO.guard|apply LeO.ite|apply LeO.loop|apply LeO.fold|exact LeO.refl _
  | (intro(u:Sum _ _);cases u <;> dsimp only)
  | intro _
def fZ (f:Nat) (p0:(List TH)) (p1:TH):Option Int :=
 ((gP f (eE f p0 p1) (0,0)).bind fun u4=>match u4 with|(.inl u9)=>some u9.1|(.inr u10)=>some (-1))
theorem l3 (f:Nat) (p0:(List TH)) (p1:TH):LeO (fZ f p0 p1) (bZ p0 p1):=by
 unfold fZ bZ
 repeat' first
  | with_reducible first|apply LeO.bind|apply lg|apply LeO.guard|apply LeO.ite|apply LeO.loop|apply LeO.fold|exact LeO.refl _
  | (intro(u:Sum _ _);cases u <;> dsimp only)
  | intro _
def eJ (f:Nat) (p0:(List TH)) (p1:TH):Option Bool :=
 ((fZ f p0 p1).bind fun y2=>some (decide (0≤y2)))
theorem li (f:Nat) (p0:(List TH)) (p1:TH):LeO (eJ f p0 p1) (bE p0 p1):=by
 unfold eJ bE
 repeat' first
  | with_reducible first|apply LeO.bind|apply l3|apply LeO.guard|apply LeO.ite|apply LeO.loop|apply LeO.fold|exact LeO.refl _
  | (intro(u:Sum _ _);cases u <;> dsimp only)
  | intro _
def gX (f:Nat) (p0:TL) (p1:(List TH)) (s6:(Bool × Int)):Option ((Bool × Int) ⊕ ((Bool × Int) ⊕ (Bool × Int))) :=
 (if decide (s6.2<(p1.length:Int))=true then ac ((0:Int)≤s6.2∧s6.2<(p1.length:Int)) (((di f p0 ((rdL p1 s6.2).fFrom)).bind fun y11=>((di f p0 ((rdL p1 s6.2).fTo)).bind fun y13=>((if((decide (y11<0))||(decide (y13<0)))=true then(some (true))else(ac ((0:Int)≤y11∧y11<(p0.fNo.length:Int)) (ac ((0:Int)≤y13∧y13<(p0.fNo.length:Int)) (some (decide ((rdL p0.fNo y13).fLevel≤(rdL p0.fNo y11).fLevel)))))).bind fun b17=>((if b17=true then(some (true))else(ac ((0:Int)≤s6.2∧s6.2≤(p1.length:Int)) (((eJ f (p1.take (Int.toNat s6.2)) (TH.mk ((rdL p1 s6.2).fFrom) ((rdL p1 s6.2).fTo))).bind fun y24=>some (y24))))).bind fun b20=>(if b20=true then some (.inr (.inl (false,s6.2)))else some (.inl (s6.1,w64 (s6.2+1)))))))))else some (.inr (.inr (s6.1,s6.2))))
theorem m8 (f:Nat) (p0:TL) (p1:(List TH)) (s6:(Bool × Int)):LeO (gX f p0 p1 s6) (ct p0 p1 s6):=by
 unfold gX ct
 repeat' first
  | with_reducible first|apply LeO.bind|apply fx|apply li|apply LeO.guard|apply LeO.ite|apply LeO.loop|apply LeO.fold|exact LeO.refl _
  | (intro(u:Sum _ _);cases u <;> dsimp only)
  | intro _
def kc (f:Nat) (p0:TL) (p1:(List TH)):Option Bool :=
 ((dS f (p1.length:Int) 1 4).bind fun y2=>(if(!y2)=true then some false else((gP f (gX f p0 p1) (false,0)).bind fun u7=>match u7 with|(.inl u29)=>some u29.1|(.inr u30)=>some true)))
theorem pp (f:Nat) (p0:TL) (p1:(List TH)):LeO (kc f p0 p1) (eB p0 p1):=by
 unfold kc eB
 repeat' first
  | with_reducible first|apply LeO.bind|apply m8|apply jZ|apply LeO.guard|apply LeO.ite|apply LeO.loop|apply LeO.fold|exact LeO.refl _
  | (intro(u:Sum _ _);cases u <;> dsimp only)
  | intro _
def jl (f:Nat) (p0:TL) (s5:(Int × Int)):Option ((Int × Int) ⊕ ((Int × Int) ⊕ (Int × Int))) :=
 (if decide (s5.2<(p0.fNo.length:Int))=true then ac ((0:Int)≤s5.2∧s5.2<(p0.fNo.length:Int)) (((dS f ((rdL p0.fNo s5.2).fID) 1 1099511627776).bind fun y10=>((if(!y10)=true then(some (true))else((dS f ((rdL p0.fNo s5.2).fLevel) 0 9).bind fun y24=>some ((!y24)))).bind fun b13=>((if b13=true then(some (true))else((dS f ((rdL p0.fNo s5.2).fCost) 0 1073741824).bind fun y22=>some ((!y22)))).bind fun b16=>(if b16=true then some (.inr (.inl (1,s5.2)))else((di f p0 ((rdL p0.fNo s5.2).fID)).bind fun y19=>(if decide (y19<s5.2)=true then some (.inr (.inl (6,s5.2)))else some (.inl (s5.1,w64 (s5.2+1))))))))))else some (.inr (.inr (s5.1,s5.2))))
theorem oG (f:Nat) (p0:TL) (s5:(Int × Int)):LeO (jl f p0 s5) (dl p0 s5):=by
 unfold jl dl
 repeat' first
  | with_reducible first|apply LeO.bind|apply fx|apply jZ|apply LeO.guard|apply LeO.ite|apply LeO.loop|apply LeO.fold|exact LeO.refl _
  | (intro(u:Sum _ _);cases u <;> dsimp only)
  | intro _
def jj (f:Nat) (p0:TL) (s30:(Int × Int × Int)):Option ((Int × Int × Int) ⊕ ((Int × Int × Int) ⊕ (Int × Int × Int))) :=
 (if decide (s30.2.2<(p0.fC.length:Int))=true then ac ((0:Int)≤s30.2.2∧s30.2.2<(p0.fC.length:Int)) (((dS f ((rdL p0.fC s30.2.2).fID) 1 1099511627776).bind fun y35=>((if(!y35)=true then(some (true))else((kc f p0 ((rdL p0.fC s30.2.2).fO)).bind fun y44=>some ((!y44)))).bind fun b38=>(if b38=true then some (.inr (.inl (1,s30.2.1,s30.2.2)))else((kL f p0 ((rdL p0.fC s30.2.2).fID)).bind fun y41=>(if decide (y41<s30.2.2)=true then some (.inr (.inl (6,s30.2.1,s30.2.2)))else some (.inl (s30.1,min (w64 (s30.2.1*(((rdL p0.fC s30.2.2).fO.length:Nat):Int))) 4097,w64 (s30.2.2+1)))))))))else some (.inr (.inr (s30.1,s30.2.1,s30.2.2))))
theorem nX (f:Nat) (p0:TL) (s30:(Int × Int × Int)):LeO (jj f p0 s30) (dh p0 s30):=by
 unfold jj dh
 repeat' first
  | with_reducible first|apply LeO.bind|apply pQ|apply pp|apply jZ|apply LeO.guard|apply LeO.ite|apply LeO.loop|apply LeO.fold|exact LeO.refl _
  | (intro(u:Sum _ _);cases u <;> dsimp only)
  | intro _
def gN (f:Nat) (p0:TL):Option Int :=
 (if((decide (60<(p0.fNo.length:Int)))||(decide (80<(p0.fC.length:Int))))=true then some 2 else((gP f (jl f p0) (0,0)).bind fun u6=>match u6 with|(.inl u27)=>some u27.1|(.inr u28)=>((gP f (jj f p0) (u28.1,1,0)).bind fun u31=>match u31 with|(.inl u47)=>some u47.1|(.inr u48)=>(if decide (4096<u48.2.1)=true then some 2 else some 0))))
theorem k7 (f:Nat) (p0:TL):LeO (gN f p0) (cf p0):=by
 unfold gN cf
 repeat' first
  | with_reducible first|apply LeO.bind|apply oG|apply nX|apply LeO.guard|apply LeO.ite|apply LeO.loop|apply LeO.fold|exact LeO.refl _
  | (intro(u:Sum _ _);cases u <;> dsimp only)
  | intro _
def iM (f:Nat) (p0:Int):Option Bool :=
 some (p0 !=p0)
theorem pG (f:Nat) (p0:Int):LeO (iM f p0) (da p0):=by
 unfold iM da
 repeat' first
  | with_reducible first|apply LeO.bind|apply LeO.guard|apply LeO.ite|apply LeO.loop|apply LeO.fold|exact LeO.refl _
  | (intro(u:Sum _ _);cases u <;> dsimp only)
  | intro _
def jp (f:Nat) (p0:TL) (p1:Int) (s5:(Int × (List (Int × Bool)))):Option ((Int × (List (Int × Bool))) ⊕ (Int × (List (Int × Bool)))) :=
 (if decide (s5.1<(p0.fNo.length:Int))=true then ac ((0:Int)≤s5.1∧s5.1<(p0.fNo.length:Int)) ((if(((rdL p0.fNo s5.1).fLevel)==p1)=true then ac (dA ((rdL p0.fNo s5.1).fID)=true∧List.length s5.2<1000000000) (some (.inl (w64 (s5.1+1),(((rdL p0.fNo s5.1).fID,true)::s5.2))))else some (.inl (w64 (s5.1+1),s5.2))))else some (.inr (s5.1,s5.2)))
theorem n5 (f:Nat) (p0:TL) (p1:Int) (s5:(Int × (List (Int × Bool)))):LeO (jp f p0 p1 s5) (iL p0 p1 s5):=by
 unfold jp iL
 repeat' first
  | with_reducible first|apply LeO.bind|apply LeO.guard|apply LeO.ite|apply LeO.loop|apply LeO.fold|exact LeO.refl _
  | (intro(u:Sum _ _);cases u <;> dsimp only)
  | intro _
def ls (f:Nat) (p0:TL) (p1:Int):Option (List (Int × Bool)) :=
 ((gP f (jp f p0 p1) (0,[])).bind fun u6=>some u6.2)
theorem p8 (f:Nat) (p0:TL) (p1:Int):LeO (ls f p0 p1) (jW p0 p1):=by
 unfold ls jW
 repeat' first
  | with_reducible first|apply LeO.bind|apply n5|apply LeO.guard|apply LeO.ite|apply LeO.loop|apply LeO.fold|exact LeO.refl _
  | (intro(u:Sum _ _);cases u <;> dsimp only)
  | intro _
def ka (f:Nat) (p0:TL):Option (List Int) :=
 ((ls f p0 0).bind fun y2=>((bp y2).bind fun y5=>some y5))
theorem pb (f:Nat) (p0:TL):LeO (ka f p0) (gR p0):=by
 unfold ka gR
 repeat' first
  | with_reducible first|apply LeO.bind|apply p8|apply LeO.guard|apply LeO.ite|apply LeO.loop|apply LeO.fold|exact LeO.refl _
  | (intro(u:Sum _ _);cases u <;> dsimp only)
  | intro _
def eC (f:Nat) (p0:TL):Option Unit :=
 some ()
theorem f9 (f:Nat) (p0:TL):LeO (eC f p0) (dn p0):=by
 unfold eC dn
 repeat' first
  | with_reducible first|apply LeO.bind|apply LeO.guard|apply LeO.ite|apply LeO.loop|apply LeO.fold|exact LeO.refl _
  | (intro(u:Sum _ _);cases u <;> dsimp only)
  | intro _
def ck (f:Nat) (p0:(List Int)) (p1:Int) (p3:Int→Int→Option Int) (s8:(Int × (List Int))):Option ((Int × (List Int)) ⊕ (Int × (List Int))) :=
 ((if decide (p1<s8.1)=true then(ac ((0:Int)≤s8.1∧s8.1<(p0.length:Int)) (ac ((0:Int)≤w64 (s8.1-1)∧w64 (s8.1-1)<(p0.length:Int)) (((p3 (rdL s8.2 s8.1) (rdL s8.2 (w64 (s8.1-1)))).bind fun y21=>some (decide (y21<0))))))else(some (false))).bind fun b11=>(if b11=true then ac ((0:Int)≤w64 (s8.1-1)∧w64 (s8.1-1)<(p0.length:Int)) (ac ((0:Int)≤s8.1∧s8.1<(p0.length:Int)) (ac ((0:Int)≤s8.1∧s8.1<(p0.length:Int)) (ac ((0:Int)≤w64 (s8.1-1)∧w64 (s8.1-1)<(p0.length:Int)) (some (.inl (w64 (s8.1-1),((s8.2.set (Int.toNat s8.1) (rdL s8.2 (w64 (s8.1-1)))).set (Int.toNat (w64 (s8.1-1))) (rdL s8.2 s8.1))))))))else some (.inr (s8.1,s8.2))))
theorem gC (f:Nat) (p0:(List Int)) (p1:Int) (p3 p3':Int→Int→Option Int) (hp3_cmp:∀x0 x1,LeO (p3 x0 x1) (p3' x0 x1)) (s8:(Int × (List Int))):LeO (ck f p0 p1 p3 s8) (aJ p0 p1 p3' s8):=by
 unfold ck aJ
 repeat' first
  | with_reducible first|apply LeO.bind|apply hp3_cmp|apply LeO.guard|apply LeO.ite|apply LeO.loop|apply LeO.fold|exact LeO.refl _
  | (intro(u:Sum _ _);cases u <;> dsimp only)
  | intro _
def cm (f:Nat) (p0:(List Int)) (p1:Int) (p2:Int) (p3:Int→Int→Option Int) (s3:(Int × (List Int))):Option ((Int × (List Int)) ⊕ (Int × (List Int))) :=
 (if decide (s3.1<p2)=true then((gP f (ck f p0 p1 p3) (s3.1,s3.2)).bind fun u9=>some (.inl (w64 (s3.1+1),u9.2)))else some (.inr (s3.1,s3.2)))
theorem gB (f:Nat) (p0:(List Int)) (p1:Int) (p2:Int) (p3 p3':Int→Int→Option Int) (hp3_cmp:∀x0 x1,LeO (p3 x0 x1) (p3' x0 x1)) (s3:(Int × (List Int))):LeO (cm f p0 p1 p2 p3 s3) (ay p0 p1 p2 p3' s3):=by
 unfold cm ay
 repeat' first
  | with_reducible first|apply LeO.bind|apply hp3_cmp|apply gC|apply LeO.guard|apply LeO.ite|apply LeO.loop|apply LeO.fold|exact LeO.refl _
  | (intro(u:Sum _ _);cases u <;> dsimp only)
  | intro _
def cJ (f:Nat) (p0:(List Int)) (p1:Int) (p2:Int) (p3:Int→Int→Option Int):Option (List Int) :=
 ((gP f (cm f p0 p1 p2 p3) (w64 (p1+1),p0)).bind fun u4=>some u4.2)
theorem ii (f:Nat) (p0:(List Int)) (p1:Int) (p2:Int) (p3 p3':Int→Int→Option Int) (hp3_cmp:∀x0 x1,LeO (p3 x0 x1) (p3' x0 x1)):LeO (cJ f p0 p1 p2 p3) (aT p0 p1 p2 p3'):=by
 unfold cJ aT
 repeat' first
  | with_reducible first|apply LeO.bind|apply hp3_cmp|apply gB|apply LeO.guard|apply LeO.ite|apply LeO.loop|apply LeO.fold|exact LeO.refl _
  | (intro(u:Sum _ _);cases u <;> dsimp only)
  | intro _
def dz (f:Nat) (p1:Int) (s2:(Int × Int)):Option ((Int × Int) ⊕ (Int × Int)) :=
 ac (decide (s2.2≤p1)=false) (some (.inr (s2.1,s2.2)))
theorem jY (f:Nat) (p1:Int) (s2:(Int × Int)):LeO (dz f p1 s2) (bu p1 s2):=by
 unfold dz bu
 repeat' first
  | with_reducible first|apply LeO.bind|apply LeO.guard|apply LeO.ite|apply LeO.loop|apply LeO.fold|exact LeO.refl _
  | (intro(u:Sum _ _);cases u <;> dsimp only)
  | intro _
def dB (f:Nat) (p1:Int) (s10:(Int × Int × Int)):Option ((Int × Int × Int) ⊕ (Int × Int × Int)) :=
 ac (decide (s10.1<p1)=false) (some (.inr (s10.1,s10.2.1,s10.2.2)))
theorem jS (f:Nat) (p1:Int) (s10:(Int × Int × Int)):LeO (dB f p1 s10) (bq p1 s10):=by
 unfold dB bq
 repeat' first
  | with_reducible first|apply LeO.bind|apply LeO.guard|apply LeO.ite|apply LeO.loop|apply LeO.fold|exact LeO.refl _
  | (intro(u:Sum _ _);cases u <;> dsimp only)
  | intro _
def d6 (f:Nat) (p0:(List Int)) (p1:Int) (p2:Int→Int→Option Int):Option (List Int) :=
 ((gP f (dz f p1) (0,20)).bind fun u3=>((cJ f p0 u3.1 p1 p2).bind fun y6=>((gP f (dB f p1) (20,u3.1,u3.2)).bind fun u11=>some y6)))
theorem kG (f:Nat) (p0:(List Int)) (p1:Int) (p2 p2':Int→Int→Option Int) (hp2_cmp:∀x0 x1,LeO (p2 x0 x1) (p2' x0 x1)):LeO (d6 f p0 p1 p2) (bO p0 p1 p2'):=by
 unfold d6 bO
 repeat' first
  | with_reducible first|apply LeO.bind|apply hp2_cmp|apply ii|apply jY|apply jS|apply LeO.guard|apply LeO.ite|apply LeO.loop|apply LeO.fold|exact LeO.refl _
  | (intro(u:Sum _ _);cases u <;> dsimp only)
  | intro _
def cY (f:Nat) (p0:(List Int)) (p1:Int→Int→Option Int):Option (List Int) :=
 ((d6 f p0 (p0.length:Int) p1).bind fun y1=>some y1)
theorem iW (f:Nat) (p0:(List Int)) (p1 p1':Int→Int→Option Int) (hp1_cmp:∀x0 x1,LeO (p1 x0 x1) (p1' x0 x1)):LeO (cY f p0 p1) (bg p0 p1'):=by
 unfold cY bg
 repeat' first
  | with_reducible first|apply LeO.bind|apply hp1_cmp|apply kG|apply LeO.guard|apply LeO.ite|apply LeO.loop|apply LeO.fold|exact LeO.refl _
  | (intro(u:Sum _ _);cases u <;> dsimp only)
  | intro _
def jv (f:Nat) (p0:Int) (p1:Int):Option Int :=
 ((iM f p0).bind fun y1=>((iM f p1).bind fun y3=>(if y1=true then(if y3=true then some 0 else some (-1))else(if y3=true then some 1 else(if decide (p0<p1)=true then some (-1)else(if decide (p1<p0)=true then some 1 else some 0))))))
theorem nF (f:Nat) (p0:Int) (p1:Int):LeO (jv f p0 p1) (dP p0 p1):=by
 unfold jv dP
 repeat' first
  | with_reducible first|apply LeO.bind|apply pG|apply LeO.guard|apply LeO.ite|apply LeO.loop|apply LeO.fold|exact LeO.refl _
  | (intro(u:Sum _ _);cases u <;> dsimp only)
  | intro _
def jq (f:Nat) (p0:Int) (p1:Int) (cap0:TL):Option Int :=
 ac ((0:Int)≤p0∧p0<(cap0.fNo.length:Int)) (ac ((0:Int)≤p1∧p1<(cap0.fNo.length:Int)) (((jv f ((rdL cap0.fNo p0).fLevel) ((rdL cap0.fNo p1).fLevel)).bind fun y3=>some y3)))
theorem nw (f:Nat) (p0:Int) (p1:Int) (cap0:TL):LeO (jq f p0 p1 cap0) (dq p0 p1 cap0):=by
 unfold jq dq
 repeat' first
  | with_reducible first|apply LeO.bind|apply nF|apply LeO.guard|apply LeO.ite|apply LeO.loop|apply LeO.fold|exact LeO.refl _
  | (intro(u:Sum _ _);cases u <;> dsimp only)
  | intro _
def iP (f:Nat) (p0:TL) (s6:(Int × (List Int))):Option ((Int × (List Int)) ⊕ (Int × (List Int))) :=
 (if decide (s6.1<((Int.toNat (p0.fNo.length:Int):Nat):Int))=true then ac ((0:Int)≤s6.1∧s6.1<((Int.toNat (p0.fNo.length:Int):Nat):Int)) (some (.inl (w64 (s6.1+1),(s6.2.set (Int.toNat s6.1) s6.1))))else some (.inr (s6.1,s6.2)))
theorem nl (f:Nat) (p0:TL) (s6:(Int × (List Int))):LeO (iP f p0 s6) (cQ p0 s6):=by
 unfold iP cQ
 repeat' first
  | with_reducible first|apply LeO.bind|apply LeO.guard|apply LeO.ite|apply LeO.loop|apply LeO.fold|exact LeO.refl _
  | (intro(u:Sum _ _);cases u <;> dsimp only)
  | intro _
def kP (f:Nat) (p0:TL):Option (List Int) :=
 ac ((0:Int)≤(p0.fNo.length:Int)∧(p0.fNo.length:Int)*8≤281474976710656) (((gP f (iP f p0) (0,(List.replicate (Int.toNat (p0.fNo.length:Int)) 0))).bind fun u7=>((cY f u7.2 (fun x11 x12=>jq f x11 x12 p0)).bind fun y13=>some y13)))
theorem pP (f:Nat) (p0:TL):LeO (kP f p0) (ft p0):=by
 unfold kP ft
 repeat' first
  | with_reducible first|apply LeO.bind|apply nw|apply nl|apply iW|apply LeO.guard|apply LeO.ite|apply LeO.loop|apply LeO.fold|exact LeO.refl _
  | (intro(u:Sum _ _);cases u <;> dsimp only)
  | intro _
def jd (f:Nat) (p0:TL) (p2:Int→Int→Option Bool) (s5:(Int × (List (Int × (List Int))))) (s12:(Int × (List (Int × (List Int))))):Option ((Int × (List (Int × (List Int)))) ⊕ (Int × (List (Int × (List Int))))) :=
 (if decide (s12.1<(((rdL p0.fC s5.1).fO.length:Nat):Int))=true then ac ((0:Int)≤s12.1∧s12.1<(((rdL p0.fC s5.1).fO.length:Nat):Int)) (((p2 s5.1 s12.1).bind fun y17=>(if y17=true then ac (dA ((rdL ((rdL p0.fC s5.1).fO) s12.1).fFrom)=true) (ac ((ax [] s12.2 ((rdL ((rdL p0.fC s5.1).fO) s12.1).fFrom)).length+1≤1000000000) (ac (dA ((rdL ((rdL p0.fC s5.1).fO) s12.1).fFrom)=true∧List.length s12.2<1000000000) (some (.inl (w64 (s12.1+1),(((rdL ((rdL p0.fC s5.1).fO) s12.1).fFrom,((ax [] s12.2 ((rdL ((rdL p0.fC s5.1).fO) s12.1).fFrom))++[(rdL ((rdL p0.fC s5.1).fO) s12.1).fTo]))::s12.2))))))else some (.inl (w64 (s12.1+1),s12.2)))))else some (.inr (s12.1,s12.2)))
theorem ox (f:Nat) (p0:TL) (p2 p2':Int→Int→Option Bool) (hp2_so:∀x0 x1,LeO (p2 x0 x1) (p2' x0 x1)) (s5:(Int × (List (Int × (List Int))))) (s12:(Int × (List (Int × (List Int))))):LeO (jd f p0 p2 s5 s12) (dp p0 p2' s5 s12):=by
 unfold jd dp
 repeat' first
  | with_reducible first|apply LeO.bind|apply hp2_so|apply LeO.guard|apply LeO.ite|apply LeO.loop|apply LeO.fold|exact LeO.refl _
  | (intro(u:Sum _ _);cases u <;> dsimp only)
  | intro _
def ji (f:Nat) (p0:TL) (p2:Int→Int→Option Bool) (s5:(Int × (List (Int × (List Int))))):Option ((Int × (List (Int × (List Int)))) ⊕ (Int × (List (Int × (List Int))))) :=
 (if decide (s5.1<(p0.fC.length:Int))=true then ac ((0:Int)≤s5.1∧s5.1<(p0.fC.length:Int)) (((gP f (jd f p0 p2 s5) (0,s5.2)).bind fun u13=>some (.inl (w64 (s5.1+1),u13.2))))else some (.inr (s5.1,s5.2)))
theorem ns (f:Nat) (p0:TL) (p2 p2':Int→Int→Option Bool) (hp2_so:∀x0 x1,LeO (p2 x0 x1) (p2' x0 x1)) (s5:(Int × (List (Int × (List Int))))):LeO (ji f p0 p2 s5) (dg p0 p2' s5):=by
 unfold ji dg
 repeat' first
  | with_reducible first|apply LeO.bind|apply hp2_so|apply ox|apply LeO.guard|apply LeO.ite|apply LeO.loop|apply LeO.fold|exact LeO.refl _
  | (intro(u:Sum _ _);cases u <;> dsimp only)
  | intro _
def jA (f:Nat) (p1:(List Int)) (s32:(Int × (List (Int × Bool)))):Option ((Int × (List (Int × Bool))) ⊕ (Int × (List (Int × Bool)))) :=
 (if decide (s32.1<(p1.length:Int))=true then ac ((0:Int)≤s32.1∧s32.1<(p1.length:Int)) (ac (dA (rdL p1 s32.1)=true∧List.length s32.2<1000000000) (some (.inl (w64 (s32.1+1),(((rdL p1 s32.1),true)::s32.2)))))else some (.inr (s32.1,s32.2)))
theorem nM (f:Nat) (p1:(List Int)) (s32:(Int × (List (Int × Bool)))):LeO (jA f p1 s32) (dQ p1 s32):=by
 unfold jA dQ
 repeat' first
  | with_reducible first|apply LeO.bind|apply LeO.guard|apply LeO.ite|apply LeO.loop|apply LeO.fold|exact LeO.refl _
  | (intro(u:Sum _ _);cases u <;> dsimp only)
  | intro _
def jB (f:Nat) (p0:TL) (u6:(Int × (List (Int × (List Int))))) (y38:(List Int)) (s46:(Int × (List (Int × Bool)))) (s56:(Int × (List (Int × Bool)))):Option ((Int × (List (Int × Bool))) ⊕ (Int × (List (Int × Bool)))) :=
 (if decide (s56.1<(((ax [] u6.2 ((rdL p0.fNo (rdL y38 s46.1)).fID)).length:Nat):Int))=true then ac ((0:Int)≤s56.1∧s56.1<(((ax [] u6.2 ((rdL p0.fNo (rdL y38 s46.1)).fID)).length:Nat):Int)) (ac (dA (rdL (ax [] u6.2 ((rdL p0.fNo (rdL y38 s46.1)).fID)) s56.1)=true∧List.length s56.2<1000000000) (some (.inl (w64 (s56.1+1),(((rdL (ax [] u6.2 ((rdL p0.fNo (rdL y38 s46.1)).fID)) s56.1),true)::s56.2)))))else some (.inr (s56.1,s56.2)))
theorem nI (f:Nat) (p0:TL) (u6:(Int × (List (Int × (List Int))))) (y38:(List Int)) (s46:(Int × (List (Int × Bool)))) (s56:(Int × (List (Int × Bool)))):LeO (jB f p0 u6 y38 s46 s56) (dR p0 u6 y38 s46 s56):=by
 unfold jB dR
 repeat' first
  | with_reducible first|apply LeO.bind|apply LeO.guard|apply LeO.ite|apply LeO.loop|apply LeO.fold|exact LeO.refl _
  | (intro(u:Sum _ _);cases u <;> dsimp only)
  | intro _
def jy (f:Nat) (p0:TL) (u6:(Int × (List (Int × (List Int))))) (y38:(List Int)) (s46:(Int × (List (Int × Bool)))):Option ((Int × (List (Int × Bool))) ⊕ (Int × (List (Int × Bool)))) :=
 (if decide (s46.1<(y38.length:Int))=true then ac ((0:Int)≤s46.1∧s46.1<(y38.length:Int)) (ac ((0:Int)≤(rdL y38 s46.1)∧(rdL y38 s46.1)<(p0.fNo.length:Int)) (ac (dA ((rdL p0.fNo (rdL y38 s46.1)).fID)=true) ((if(!(ax false s46.2 ((rdL p0.fNo (rdL y38 s46.1)).fID)))=true then some (.inl (w64 (s46.1+1),s46.2))else ac (dA ((rdL p0.fNo (rdL y38 s46.1)).fID)=true) (((gP f (jB f p0 u6 y38 s46) (0,s46.2)).bind fun u57=>some (.inl (w64 (s46.1+1),u57.2))))))))else some (.inr (s46.1,s46.2)))
theorem oA (f:Nat) (p0:TL) (u6:(Int × (List (Int × (List Int))))) (y38:(List Int)) (s46:(Int × (List (Int × Bool)))):LeO (jy f p0 u6 y38 s46) (dm p0 u6 y38 s46):=by
 unfold jy dm
 repeat' first
  | with_reducible first|apply LeO.bind|apply nI|apply LeO.guard|apply LeO.ite|apply LeO.loop|apply LeO.fold|exact LeO.refl _
  | (intro(u:Sum _ _);cases u <;> dsimp only)
  | intro _
def eM (f:Nat) (p0:TL) (p1:(List Int)) (p2:Int→Int→Option Bool):Option (List (Int × Bool)) :=
 ((gP f (ji f p0 p2) (0,([]:(List (Int × (List Int)))))).bind fun u6=>((gP f (jA f p1) (0,[])).bind fun u33=>((kP f p0).bind fun y38=>((gP f (jy f p0 u6 y38) (0,u33.2)).bind fun u47=>some u47.2))))
theorem gh (f:Nat) (p0:TL) (p1:(List Int)) (p2 p2':Int→Int→Option Bool) (hp2_so:∀x0 x1,LeO (p2 x0 x1) (p2' x0 x1)):LeO (eM f p0 p1 p2) (rcR p0 p1 p2'):=by
 unfold eM rcR
 repeat' first
  | with_reducible first|apply LeO.bind|apply hp2_so|apply pP|apply ns|apply nM|apply oA|apply LeO.guard|apply LeO.ite|apply LeO.loop|apply LeO.fold|exact LeO.refl _
  | (intro(u:Sum _ _);cases u <;> dsimp only)
  | intro _
def er (f:Nat) (p0:(List Int)) (p1:Int) (p2:Int):Option Bool :=
 ac ((0:Int)≤p1∧p1<(p0.length:Int)) (some ((rdL p0 p1)==p2))
theorem gW (f:Nat) (p0:(List Int)) (p1:Int) (p2:Int):LeO (er f p0 p1 p2) (bf p0 p1 p2):=by
 unfold er bf
 repeat' first
  | with_reducible first|apply LeO.bind|apply LeO.guard|apply LeO.ite|apply LeO.loop|apply LeO.fold|exact LeO.refl _
  | (intro(u:Sum _ _);cases u <;> dsimp only)
  | intro _
def gb (f:Nat) (p0:(List Int)):Option Unit :=
 some ()
theorem ke (f:Nat) (p0:(List Int)):LeO (gb f p0) (dE p0):=by
 unfold gb dE
 repeat' first
  | with_reducible first|apply LeO.bind|apply LeO.guard|apply LeO.ite|apply LeO.loop|apply LeO.fold|exact LeO.refl _
  | (intro(u:Sum _ _);cases u <;> dsimp only)
  | intro _
def gz (f:Nat) (p0:TL) (p1:(List Int)) (s18:(List (Int × Bool))) (x19:(List Int)):Option ((List (Int × Bool)) ⊕ Unit) :=
 ((gb f x19).bind fun y21=>((eM f p0 p1 (fun x23 x24=>er f x19 x23 x24)).bind fun y25=>ac (List.length s18+List.length y25≤1000000) (some (.inl (lq true y25 s18)))))
theorem mM (f:Nat) (p0:TL) (p1:(List Int)) (s18:(List (Int × Bool))) (x19:(List Int)):LeO (gz f p0 p1 s18 x19) (dw p0 p1 s18 x19):=by
 unfold gz dw
 repeat' first
  | with_reducible first|apply LeO.bind|apply gW|apply ke|apply gh|apply LeO.guard|apply LeO.ite|apply LeO.loop|apply LeO.fold|exact LeO.refl _
  | (intro(u:Sum _ _);cases u <;> dsimp only)
  | intro _
def cz (f:Nat) (p0:TL) (p1:(List Int)):Option (List (Int × Bool)) :=
 ((eC f p0).bind fun y5=>(ac (cq p0) ((gE (gz f p0 p1) (sCs p0) []).bind fun u20=>match u20 with|.inl u45=>some u45|.inr _=>none)))
theorem eo (f:Nat) (p0:TL) (p1:(List Int)):LeO (cz f p0 p1) (bI p0 p1):=by
 unfold cz bI
 repeat' first
  | with_reducible first|apply LeO.bind|apply f9|apply mM|apply LeO.guard|apply LeO.ite|apply LeO.loop|apply LeO.fold|exact LeO.refl _
  | (intro(u:Sum _ _);cases u <;> dsimp only)
  | intro _
def kf (f:Nat) (p0:TL) (p1:(List Int)) (s20:(List (Int × Bool))) (x21:(List Int)):Option ((List (Int × Bool)) ⊕ Unit) :=
 ((gb f x21).bind fun y23=>((eM f p0 p1 (fun x25 x26=>er f x21 x25 x26)).bind fun y27=>some (.inl (s20.filter (fun p => !(fun y33=>(!(ax false y27 y33))) p.1)))))
theorem oM (f:Nat) (p0:TL) (p1:(List Int)) (s20:(List (Int × Bool))) (x21:(List Int)):LeO (kf f p0 p1 s20 x21) (fP p0 p1 s20 x21):=by
 unfold kf fP
 repeat' first
  | with_reducible first|apply LeO.bind|apply gW|apply ke|apply gh|apply LeO.guard|apply LeO.ite|apply LeO.loop|apply LeO.fold|exact LeO.refl _
  | (intro(u:Sum _ _);cases u <;> dsimp only)
  | intro _
def gn (f:Nat) (p0:TL) (p1:(List Int)):Option (List (Int × Bool)) :=
 ((cz f p0 p1).bind fun y3=>((eC f p0).bind fun y7=>(ac (cq p0) ((gE (kf f p0 p1) (sCs p0) y3).bind fun u22=>match u22 with|.inl u48=>some u48|.inr _=>none))))
theorem jE (f:Nat) (p0:TL) (p1:(List Int)):LeO (gn f p0 p1) (eI p0 p1):=by
 unfold gn eI
 repeat' first
  | with_reducible first|apply LeO.bind|apply f9|apply eo|apply oM|apply LeO.guard|apply LeO.ite|apply LeO.loop|apply LeO.fold|exact LeO.refl _
  | (intro(u:Sum _ _);cases u <;> dsimp only)
  | intro _
def gZ (f:Nat) (p0:TL) (p1:Int) (y8:(List Int)) (s16:(Int × (List Int) × (List Int))):Option ((Int × (List Int) × (List Int)) ⊕ (Int × (List Int) × (List Int))) :=
 (if decide (s16.1<(y8.length:Int))=true then ac ((0:Int)≤s16.1∧s16.1<(y8.length:Int)) (((gn f p0 [(rdL y8 s16.1)]).bind fun y21=>ac (dA p1=true) ((if ax false y21 p1=true then ac (s16.2.1.length+1≤1000000000) (((cz f p0 [(rdL y8 s16.1)]).bind fun y31=>ac (dA p1=true) ((if ax false y31 p1=true then ac (s16.2.2.length+1≤1000000000) (some (.inl (w64 (s16.1+1),(s16.2.1++[(rdL y8 s16.1)]),(s16.2.2++[(rdL y8 s16.1)]))))else some (.inl (w64 (s16.1+1),(s16.2.1++[(rdL y8 s16.1)]),s16.2.2))))))else((cz f p0 [(rdL y8 s16.1)]).bind fun y41=>ac (dA p1=true) ((if ax false y41 p1=true then ac (s16.2.2.length+1≤1000000000) (some (.inl (w64 (s16.1+1),s16.2.1,(s16.2.2++[(rdL y8 s16.1)]))))else some (.inl (w64 (s16.1+1),s16.2.1,s16.2.2)))))))))else some (.inr (s16.1,s16.2.1,s16.2.2)))
theorem m6 (f:Nat) (p0:TL) (p1:Int) (y8:(List Int)) (s16:(Int × (List Int) × (List Int))):LeO (gZ f p0 p1 y8 s16) (gw p0 p1 y8 s16):=by
 unfold gZ gw
 repeat' first
  | with_reducible first|apply LeO.bind|apply eo|apply jE|apply LeO.guard|apply LeO.ite|apply LeO.loop|apply LeO.fold|exact LeO.refl _
  | (intro(u:Sum _ _);cases u <;> dsimp only)
  | intro _
def j9 (f:Nat) (p0:TL) (p1:Int):Option ((List Int) × (List Int) × Int) :=
 ((gN f p0).bind fun y2=>(if(y2 !=0)=true then some ([],[],y2)else((di f p0 p1).bind fun y5=>(if decide (y5<0)=true then some ([],[],5)else((ka f p0).bind fun y8=>((gP f (gZ f p0 p1 y8) (0,([]:List Int),([]:List Int))).bind fun u17=>some (u17.2.1,u17.2.2,0)))))))
theorem pj (f:Nat) (p0:TL) (p1:Int):LeO (j9 f p0 p1) (gM p0 p1):=by
 unfold j9 gM
 repeat' first
  | with_reducible first|apply LeO.bind|apply k7|apply m6|apply pb|apply fx|apply LeO.guard|apply LeO.ite|apply LeO.loop|apply LeO.fold|exact LeO.refl _
  | (intro(u:Sum _ _);cases u <;> dsimp only)
  | intro _
def dX (f:Nat) (p0:(List Int)) (p1:Int→Option Int) (p2:Int→Option Bool) (s2:(Bool × Int)):Option ((Bool × Int) ⊕ ((Bool × Int) ⊕ (Bool × Int))) :=
 (if decide (s2.2<(p0.length:Int))=true then ac ((0:Int)≤s2.2∧s2.2<(p0.length:Int)) (((p1 (rdL p0 s2.2)).bind fun y6=>((p2 y6).bind fun y8=>((if(!y8)=true then(some (true))else((if decide (0<s2.2)=true then((p1 (rdL p0 s2.2)).bind fun y17=>ac ((0:Int)≤w64 (s2.2-1)∧w64 (s2.2-1)<(p0.length:Int)) (((p1 (rdL p0 (w64 (s2.2-1)))).bind fun y20=>some (decide (y17≤y20)))))else(some (false))).bind fun b15=>some (b15))).bind fun b11=>(if b11=true then some (.inr (.inl (false,s2.2)))else some (.inl (s2.1,w64 (s2.2+1))))))))else some (.inr (.inr (s2.1,s2.2))))
theorem kD (f:Nat) (p0:(List Int)) (p1 p1':Int→Option Int) (hp1_id:∀x,LeO (p1 x) (p1' x)) (p2 p2':Int→Option Bool) (hp2_so:∀x,LeO (p2 x) (p2' x)) (s2:(Bool × Int)):LeO (dX f p0 p1 p2 s2) (a7 p0 p1' p2' s2):=by
 unfold dX a7
 repeat' first
  | with_reducible first|apply LeO.bind|apply hp1_id|apply hp2_so|apply LeO.guard|apply LeO.ite|apply LeO.loop|apply LeO.fold|exact LeO.refl _
  | (intro(u:Sum _ _);cases u <;> dsimp only)
  | intro _
def fg (f:Nat) (p0:(List Int)) (p1:Int→Option Int) (p2:Int→Option Bool):Option Bool :=
 ((gP f (dX f p0 p1 p2) (false,0)).bind fun u3=>match u3 with|(.inl u23)=>some u23.1|(.inr u24)=>some true)
theorem lP (f:Nat) (p0:(List Int)) (p1 p1':Int→Option Int) (hp1_id:∀x,LeO (p1 x) (p1' x)) (p2 p2':Int→Option Bool) (hp2_so:∀x,LeO (p2 x) (p2' x)):LeO (fg f p0 p1 p2) (bB p0 p1' p2'):=by
 unfold fg bB
 repeat' first
  | with_reducible first|apply LeO.bind|apply hp1_id|apply hp2_so|apply kD|apply LeO.guard|apply LeO.ite|apply LeO.loop|apply LeO.fold|exact LeO.refl _
  | (intro(u:Sum _ _);cases u <;> dsimp only)
  | intro _
def mE (f:Nat) (p0:Int):Option Int :=
 some p0
theorem rL (f:Nat) (p0:Int):LeO (mE f p0) (ed p0):=by
 unfold mE ed
 repeat' first
  | with_reducible first|apply LeO.bind|apply LeO.guard|apply LeO.ite|apply LeO.loop|apply LeO.fold|exact LeO.refl _
  | (intro(u:Sum _ _);cases u <;> dsimp only)
  | intro _
def jw (f:Nat) (p0:Int) (cap0:TL):Option Bool :=
 ((di f cap0 p0).bind fun y1=>some (decide (0≤y1)))
theorem oH (f:Nat) (p0:Int) (cap0:TL):LeO (jw f p0 cap0) (dk p0 cap0):=by
 unfold jw dk
 repeat' first
  | with_reducible first|apply LeO.bind|apply fx|apply LeO.guard|apply LeO.ite|apply LeO.loop|apply LeO.fold|exact LeO.refl _
  | (intro(u:Sum _ _);cases u <;> dsimp only)
  | intro _
def kM (f:Nat) (p0:TL) (p1:(List Int)):Option Bool :=
 ((if decide (0<(p1.length:Int))=true then((fg f p1 (fun x5=>mE f x5) (fun x6=>jw f x6 p0)).bind fun y7=>some (y7))else(some (false))).bind fun b3=>some b3)
theorem pS (f:Nat) (p0:TL) (p1:(List Int)):LeO (kM f p0 p1) (fh p0 p1):=by
 unfold kM fh
 repeat' first
  | with_reducible first|apply LeO.bind|apply lP|apply oH|apply rL|apply LeO.guard|apply LeO.ite|apply LeO.loop|apply LeO.fold|exact LeO.refl _
  | (intro(u:Sum _ _);cases u <;> dsimp only)
  | intro _
def eO (f:Nat) (p0:TL) (p1:(List Int)):Option Int :=
 ((gN f p0).bind fun y2=>(if(y2 !=0)=true then some y2 else((kM f p0 p1).bind fun y5=>(if(!y5)=true then some 1 else some 0))))
theorem f8 (f:Nat) (p0:TL) (p1:(List Int)):LeO (eO f p0 p1) (cy p0 p1):=by
 unfold eO cy
 repeat' first
  | with_reducible first|apply LeO.bind|apply k7|apply pS|apply LeO.guard|apply LeO.ite|apply LeO.loop|apply LeO.fold|exact LeO.refl _
  | (intro(u:Sum _ _);cases u <;> dsimp only)
  | intro _
def jo (f:Nat) (p0:TL) (p1:(List (Int × Bool))) (s5:(Int × Int × (List (Int × Bool)))):Option ((Int × Int × (List (Int × Bool))) ⊕ (Int × Int × (List (Int × Bool)))) :=
 (if decide (s5.2.1<(p0.fNo.length:Int))=true then ac ((0:Int)≤s5.2.1∧s5.2.1<(p0.fNo.length:Int)) (((if(((rdL p0.fNo s5.2.1).fLevel)==9)=true then(ac (dA ((rdL p0.fNo s5.2.1).fID)=true) (some (ax false p1 ((rdL p0.fNo s5.2.1).fID))))else(some (false))).bind fun b11=>(if b11=true then ac (dA ((rdL p0.fNo s5.2.1).fID)=true∧List.length s5.2.2<1000000000) (some (.inl (w64 (s5.1+((rdL p0.fNo s5.2.1).fCost)),w64 (s5.2.1+1),(((rdL p0.fNo s5.2.1).fID,true)::s5.2.2))))else some (.inl (s5.1,w64 (s5.2.1+1),s5.2.2)))))else some (.inr (s5.1,s5.2.1,s5.2.2)))
theorem nN (f:Nat) (p0:TL) (p1:(List (Int × Bool))) (s5:(Int × Int × (List (Int × Bool)))):LeO (jo f p0 p1 s5) (iA p0 p1 s5):=by
 unfold jo iA
 repeat' first
  | with_reducible first|apply LeO.bind|apply LeO.guard|apply LeO.ite|apply LeO.loop|apply LeO.fold|exact LeO.refl _
  | (intro(u:Sum _ _);cases u <;> dsimp only)
  | intro _
def gH (f:Nat) (p0:TL) (p1:(List (Int × Bool))):Option ((List Int) × Int) :=
 ((gP f (jo f p0 p1) (0,0,[])).bind fun u6=>((bp u6.2.2).bind fun y17=>some (y17,u6.1)))
theorem my (f:Nat) (p0:TL) (p1:(List (Int × Bool))):LeO (gH f p0 p1) (ga p0 p1):=by
 unfold gH ga
 repeat' first
  | with_reducible first|apply LeO.bind|apply nN|apply LeO.guard|apply LeO.ite|apply LeO.loop|apply LeO.fold|exact LeO.refl _
  | (intro(u:Sum _ _);cases u <;> dsimp only)
  | intro _
def kz (f:Nat) (p0:TL) (p1:(List Int)) (p2:Bool):Option ((List Int) × Int × Int) :=
 ((eO f p0 p1).bind fun y2=>(if(y2 !=0)=true then some ([],0,y2)else((cz f p0 p1).bind fun y5=>(if p2=true then((gn f p0 p1).bind fun y9=>((gH f p0 y9).bind fun y12=>some (y12.1,y12.2,0)))else((gH f p0 y5).bind fun y18=>some (y18.1,y18.2,0))))))
theorem pN (f:Nat) (p0:TL) (p1:(List Int)) (p2:Bool):LeO (kz f p0 p1 p2) (iR p0 p1 p2):=by
 unfold kz iR
 repeat' first
  | with_reducible first|apply LeO.bind|apply f8|apply eo|apply jE|apply my|apply LeO.guard|apply LeO.ite|apply LeO.loop|apply LeO.fold|exact LeO.refl _
  | (intro(u:Sum _ _);cases u <;> dsimp only)
  | intro _
def g5 (f:Nat) (p0:(List Int)) (p1:(List Int)) (s3:(Bool × Int)):Option ((Bool × Int) ⊕ ((Bool × Int) ⊕ (Bool × Int))) :=
 (if decide (s3.2<(p0.length:Int))=true then ac ((0:Int)≤s3.2∧s3.2<(p0.length:Int)) (ac ((0:Int)≤s3.2∧s3.2<(p1.length:Int)) ((if((rdL p0 s3.2) !=(rdL p1 s3.2))=true then some (.inr (.inl (false,s3.2)))else some (.inl (s3.1,w64 (s3.2+1))))))else some (.inr (.inr (s3.1,s3.2))))
theorem m7 (f:Nat) (p0:(List Int)) (p1:(List Int)) (s3:(Bool × Int)):LeO (g5 f p0 p1 s3) (gq p0 p1 s3):=by
 unfold g5 gq
 repeat' first
  | with_reducible first|apply LeO.bind|apply LeO.guard|apply LeO.ite|apply LeO.loop|apply LeO.fold|exact LeO.refl _
  | (intro(u:Sum _ _);cases u <;> dsimp only)
  | intro _
def bR (f:Nat) (p0:(List Int)) (p1:(List Int)):Option Bool :=
 (if((p0.length:Int) !=(p1.length:Int))=true then some false else((gP f (g5 f p0 p1) (false,0)).bind fun u4=>match u4 with|(.inl u10)=>some u10.1|(.inr u11)=>some true))
theorem oU (f:Nat) (p0:(List Int)) (p1:(List Int)):LeO (bR f p0 p1) (bS p0 p1):=by
 unfold bR bS
 repeat' first
  | with_reducible first|apply LeO.bind|apply m7|apply LeO.guard|apply LeO.ite|apply LeO.loop|apply LeO.fold|exact LeO.refl _
  | (intro(u:Sum _ _);cases u <;> dsimp only)
  | intro _
def d8 (f:Nat) (p0:TL) (p1:(List Int)) (p2:Int):Option Int :=
 ((eO f p0 p1).bind fun y2=>(if(y2 !=0)=true then some y2 else((di f p0 p2).bind fun y5=>(if decide (y5<0)=true then some 5 else some 0))))
theorem gx (f:Nat) (p0:TL) (p1:(List Int)) (p2:Int):LeO (d8 f p0 p1 p2) (dJ p0 p1 p2):=by
 unfold d8 dJ
 repeat' first
  | with_reducible first|apply LeO.bind|apply f8|apply fx|apply LeO.guard|apply LeO.ite|apply LeO.loop|apply LeO.fold|exact LeO.refl _
  | (intro(u:Sum _ _);cases u <;> dsimp only)
  | intro _
def j7 (f:Nat) (p0:Int) (p1:Int) (cap0:(List Int)) (cap1:Int→Int→Option Bool):Option Bool :=
 ac ((0:Int)≤p0∧p0<(cap0.length:Int)) (((if((rdL cap0 p0)==p1)=true then((cap1 p0 p1).bind fun y5=>some (y5))else(some (false))).bind fun b3=>some b3))
theorem oS (f:Nat) (p0:Int) (p1:Int) (cap0:(List Int)) (cap1 cap1':Int→Int→Option Bool) (hcap1:∀x0 x1,LeO (cap1 x0 x1) (cap1' x0 x1)):LeO (j7 f p0 p1 cap0 cap1) (fT p0 p1 cap0 cap1'):=by
 unfold j7 fT
 repeat' first
  | with_reducible first|apply LeO.bind|apply hcap1|apply LeO.guard|apply LeO.ite|apply LeO.loop|apply LeO.fold|exact LeO.refl _
  | (intro(u:Sum _ _);cases u <;> dsimp only)
  | intro _
def i9 (f:Nat) (p0:TL) (p1:(List Int)) (p2:Int) (p3:Int→Int→Option Bool) (s24:Bool) (x25:(List Int)):Option (Bool ⊕ Bool) :=
 ((eM f p0 p1 (fun x28 x29=>j7 f x28 x29 x25 p3)).bind fun y30=>ac (dA p2=true) ((if ax false y30 p2=true then some (.inr true)else some (.inl s24))))
theorem n6 (f:Nat) (p0:TL) (p1:(List Int)) (p2:Int) (p3 p3':Int→Int→Option Bool) (hp3_so:∀x0 x1,LeO (p3 x0 x1) (p3' x0 x1)) (s24:Bool) (x25:(List Int)):LeO (i9 f p0 p1 p2 p3 s24 x25) (iB p0 p1 p2 p3' s24 x25):=by
 unfold i9 iB
 repeat' first
  | with_reducible first|apply LeO.bind|apply hp3_so|apply oS|apply gh|apply LeO.guard|apply LeO.ite|apply LeO.loop|apply LeO.fold|exact LeO.refl _
  | (intro(u:Sum _ _);cases u <;> dsimp only)
  | intro _
def eA (f:Nat) (p0:TL) (p1:(List Int)) (p2:Int) (p3:Int→Int→Option Bool):Option Bool :=
 ((eM f p0 p1 p3).bind fun y6=>ac (dA p2=true) ((if(!(ax false y6 p2))=true then some false else((eC f p0).bind fun y11=>(ac (cq p0) ((gE (i9 f p0 p1 p2 p3) (sCs p0) false).bind fun u26=>match u26 with|.inl u37=>some false|.inr u38=>some u38))))))
theorem ge (f:Nat) (p0:TL) (p1:(List Int)) (p2:Int) (p3 p3':Int→Int→Option Bool) (hp3_so:∀x0 x1,LeO (p3 x0 x1) (p3' x0 x1)):LeO (eA f p0 p1 p2 p3) (ep p0 p1 p2 p3'):=by
 unfold eA ep
 repeat' first
  | with_reducible first|apply LeO.bind|apply hp3_so|apply f9|apply n6|apply gh|apply LeO.guard|apply LeO.ite|apply LeO.loop|apply LeO.fold|exact LeO.refl _
  | (intro(u:Sum _ _);cases u <;> dsimp only)
  | intro _
def f5 (f:Nat) (p0:Int) (p1:Int):Option Bool :=
 some true
theorem kA (f:Nat) (p0:Int) (p1:Int):LeO (f5 f p0 p1) (cU p0 p1):=by
 unfold f5 cU
 repeat' first
  | with_reducible first|apply LeO.bind|apply LeO.guard|apply LeO.ite|apply LeO.loop|apply LeO.fold|exact LeO.refl _
  | (intro(u:Sum _ _);cases u <;> dsimp only)
  | intro _
def j4 (f:Nat) (p0:Int) (p1:Int) (cap0:Int):Option Bool :=
 some (p0 !=cap0)
theorem pd (f:Nat) (p0:Int) (p1:Int) (cap0:Int):LeO (j4 f p0 p1 cap0) (fJ p0 p1 cap0):=by
 unfold j4 fJ
 repeat' first
  | with_reducible first|apply LeO.bind|apply LeO.guard|apply LeO.ite|apply LeO.loop|apply LeO.fold|exact LeO.refl _
  | (intro(u:Sum _ _);cases u <;> dsimp only)
  | intro _
def jx (f:Nat) (p0:TL) (p1:(List Int)) (p2:Int) (s12:(Int × (List Int))):Option ((Int × (List Int)) ⊕ (Int × (List Int))) :=
 (if decide (s12.1<(p0.fC.length:Int))=true then ac ((0:Int)≤s12.1∧s12.1<(p0.fC.length:Int)) (((eA f p0 p1 p2 (fun x18 x19=>j4 f x18 x19 s12.1)).bind fun y20=>(if(!y20)=true then ac (s12.2.length+1≤1000000000) (some (.inl (w64 (s12.1+1),(s12.2++[(rdL p0.fC s12.1).fID]))))else some (.inl (w64 (s12.1+1),s12.2)))))else some (.inr (s12.1,s12.2)))
theorem og (f:Nat) (p0:TL) (p1:(List Int)) (p2:Int) (s12:(Int × (List Int))):LeO (jx f p0 p1 p2 s12) (iJ p0 p1 p2 s12):=by
 unfold jx iJ
 repeat' first
  | with_reducible first|apply LeO.bind|apply pd|apply ge|apply LeO.guard|apply LeO.ite|apply LeO.loop|apply LeO.fold|exact LeO.refl _
  | (intro(u:Sum _ _);cases u <;> dsimp only)
  | intro _
def lB (f:Nat) (p0:TL) (p1:(List Int)) (p2:Int):Option ((List Int) × Int) :=
 ((d8 f p0 p1 p2).bind fun y2=>(if(y2 !=0)=true then some ([],y2)else((eA f p0 p1 p2 (fun x5 x6=>f5 f x5 x6)).bind fun y7=>(if(!y7)=true then some ([],5)else((gP f (jx f p0 p1 p2) (0,([]:List Int))).bind fun u13=>((bQ u13.2).bind fun y28=>some (y28,0)))))))
theorem qG (f:Nat) (p0:TL) (p1:(List Int)) (p2:Int):LeO (lB f p0 p1 p2) (jI p0 p1 p2):=by
 unfold lB jI
 repeat' first
  | with_reducible first|apply LeO.bind|apply og|apply kA|apply gx|apply ge|apply LeO.guard|apply LeO.ite|apply LeO.loop|apply LeO.fold|exact LeO.refl _
  | (intro(u:Sum _ _);cases u <;> dsimp only)
  | intro _
def eF (f:Nat) (p0:(List Int)) (p1:Int) (s2:(Int × Int)):Option ((Int × Int) ⊕ ((Int × Int) ⊕ (Int × Int))) :=
 (if decide (s2.2<(p0.length:Int))=true then ac ((0:Int)≤s2.2∧s2.2<(p0.length:Int)) ((if(p1==(rdL p0 s2.2))=true then some (.inr (.inl (s2.2,s2.2)))else some (.inl (s2.1,w64 (s2.2+1)))))else some (.inr (.inr (s2.1,s2.2))))
theorem le (f:Nat) (p0:(List Int)) (p1:Int) (s2:(Int × Int)):LeO (eF f p0 p1 s2) (bj p0 p1 s2):=by
 unfold eF bj
 repeat' first
  | with_reducible first|apply LeO.bind|apply LeO.guard|apply LeO.ite|apply LeO.loop|apply LeO.fold|exact LeO.refl _
  | (intro(u:Sum _ _);cases u <;> dsimp only)
  | intro _
def fY (f:Nat) (p0:(List Int)) (p1:Int):Option Int :=
 ((gP f (eF f p0 p1) (0,0)).bind fun u3=>match u3 with|(.inl u8)=>some u8.1|(.inr u9)=>some (-1))
theorem mb (f:Nat) (p0:(List Int)) (p1:Int):LeO (fY f p0 p1) (bY p0 p1):=by
 unfold fY bY
 repeat' first
  | with_reducible first|apply LeO.bind|apply le|apply LeO.guard|apply LeO.ite|apply LeO.loop|apply LeO.fold|exact LeO.refl _
  | (intro(u:Sum _ _);cases u <;> dsimp only)
  | intro _
def c6 (f:Nat) (p0:(List Int)) (p1:Int):Option Bool :=
 ((fY f p0 p1).bind fun y1=>some (decide (0≤y1)))
theorem gy (f:Nat) (p0:(List Int)) (p1:Int):LeO (c6 f p0 p1) (a5 p0 p1):=by
 unfold c6 a5
 repeat' first
  | with_reducible first|apply LeO.bind|apply mb|apply LeO.guard|apply LeO.ite|apply LeO.loop|apply LeO.fold|exact LeO.refl _
  | (intro(u:Sum _ _);cases u <;> dsimp only)
  | intro _
def j5 (f:Nat) (p0:Int) (p1:Int) (cap0:TL) (cap1:TN):Option Bool :=
 ac ((0:Int)≤p0∧p0<(cap0.fC.length:Int)) (ac ((0:Int)≤p1∧p1<(((rdL cap0.fC p0).fO.length:Nat):Int)) (some (((rdL ((rdL cap0.fC p0).fO) p1).fTo) !=cap1.fID)))
theorem pf (f:Nat) (p0:Int) (p1:Int) (cap0:TL) (cap1:TN):LeO (j5 f p0 p1 cap0 cap1) (fG p0 p1 cap0 cap1):=by
 unfold j5 fG
 repeat' first
  | with_reducible first|apply LeO.bind|apply LeO.guard|apply LeO.ite|apply LeO.loop|apply LeO.fold|exact LeO.refl _
  | (intro(u:Sum _ _);cases u <;> dsimp only)
  | intro _
def jg (f:Nat) (p0:TL) (p1:(List Int)) (p2:Int) (s12:(Int × (List Int))):Option ((Int × (List Int)) ⊕ (Int × (List Int))) :=
 (if decide (s12.1<(p0.fNo.length:Int))=true then ac ((0:Int)≤s12.1∧s12.1<(p0.fNo.length:Int)) (((if(((rdL p0.fNo s12.1).fID)==p2)=true then(some (true))else((c6 f p1 ((rdL p0.fNo s12.1).fID)).bind fun y30=>some (y30))).bind fun b18=>(if b18=true then some (.inl (w64 (s12.1+1),s12.2))else((eA f p0 p1 p2 (fun x21 x22=>j5 f x21 x22 p0 (TN.mk ((rdL p0.fNo s12.1).fID) ((rdL p0.fNo s12.1).fLevel) ((rdL p0.fNo s12.1).fCost)))).bind fun y23=>(if(!y23)=true then ac (s12.2.length+1≤1000000000) (some (.inl (w64 (s12.1+1),(s12.2++[(rdL p0.fNo s12.1).fID]))))else some (.inl (w64 (s12.1+1),s12.2)))))))else some (.inr (s12.1,s12.2)))
theorem nU (f:Nat) (p0:TL) (p1:(List Int)) (p2:Int) (s12:(Int × (List Int))):LeO (jg f p0 p1 p2 s12) (iK p0 p1 p2 s12):=by
 unfold jg iK
 repeat' first
  | with_reducible first|apply LeO.bind|apply pf|apply ge|apply gy|apply LeO.guard|apply LeO.ite|apply LeO.loop|apply LeO.fold|exact LeO.refl _
  | (intro(u:Sum _ _);cases u <;> dsimp only)
  | intro _
def lE (f:Nat) (p0:TL) (p1:(List Int)) (p2:Int):Option ((List Int) × Int) :=
 ((d8 f p0 p1 p2).bind fun y2=>(if(y2 !=0)=true then some ([],y2)else((eA f p0 p1 p2 (fun x5 x6=>f5 f x5 x6)).bind fun y7=>(if(!y7)=true then some ([],5)else((gP f (jg f p0 p1 p2) (0,([]:List Int))).bind fun u13=>((bQ u13.2).bind fun y33=>some (y33,0)))))))
theorem qe (f:Nat) (p0:TL) (p1:(List Int)) (p2:Int):LeO (lE f p0 p1 p2) (jV p0 p1 p2):=by
 unfold lE jV
 repeat' first
  | with_reducible first|apply LeO.bind|apply nU|apply kA|apply gx|apply ge|apply LeO.guard|apply LeO.ite|apply LeO.loop|apply LeO.fold|exact LeO.refl _
  | (intro(u:Sum _ _);cases u <;> dsimp only)
  | intro _
def jf (f:Nat) (p0:TL) (p1:(List Int)) (p2:Int) (s23:(Int × Int)) (x24:(List Int)):Option ((Int × Int) ⊕ Unit) :=
 ((gb f x24).bind fun y27=>((eM f p0 p1 (fun x29 x30=>er f x24 x29 x30)).bind fun y31=>ac (dA p2=true) ((if ax false y31 p2=true then some (.inl (w64 (s23.1+1),w64 (s23.2+1)))else some (.inl (s23.1,w64 (s23.2+1)))))))
theorem oK (f:Nat) (p0:TL) (p1:(List Int)) (p2:Int) (s23:(Int × Int)) (x24:(List Int)):LeO (jf f p0 p1 p2 s23 x24) (iG p0 p1 p2 s23 x24):=by
 unfold jf iG
 repeat' first
  | with_reducible first|apply LeO.bind|apply gW|apply ke|apply gh|apply LeO.guard|apply LeO.ite|apply LeO.loop|apply LeO.fold|exact LeO.refl _
  | (intro(u:Sum _ _);cases u <;> dsimp only)
  | intro _
def jb (f:Nat) (s40:(Int × Int)):Option ((Int × Int) ⊕ (Int × Int)) :=
 (if decide (0<s40.2)=true then ac (s40.2≠0) (some (.inl (s40.2,Int.tmod s40.1 s40.2)))else some (.inr (s40.1,s40.2)))
theorem oh (f:Nat) (s40:(Int × Int)):LeO (jb f s40) (iv s40):=by
 unfold jb iv
 repeat' first
  | with_reducible first|apply LeO.bind|apply LeO.guard|apply LeO.ite|apply LeO.loop|apply LeO.fold|exact LeO.refl _
  | (intro(u:Sum _ _);cases u <;> dsimp only)
  | intro _
def lw (f:Nat) (p0:TL) (p1:(List Int)) (p2:Int):Option (TRatio × Int) :=
 ((d8 f p0 p1 p2).bind fun y5=>(if(y5 !=0)=true then some ((TRatio.mk 0 0),y5)else((eC f p0).bind fun y10=>(ac (cq p0) ((gE (jf f p0 p1 p2) (sCs p0) (0,0)).bind fun u25=>match u25 with|.inl u38=>((gP f (jb f) (u38.1,u38.2)).bind fun u41=>ac (u41.1≠0) (ac (u41.1≠0) (some ((TRatio.mk (w64 (Int.tdiv u38.1 u41.1)) (w64 (Int.tdiv u38.2 u41.1))),0))))|.inr _=>none)))))
theorem qA (f:Nat) (p0:TL) (p1:(List Int)) (p2:Int):LeO (lw f p0 p1 p2) (jT p0 p1 p2):=by
 unfold lw jT
 repeat' first
  | with_reducible first|apply LeO.bind|apply oh|apply oK|apply gx|apply f9|apply LeO.guard|apply LeO.ite|apply LeO.loop|apply LeO.fold|exact LeO.refl _
  | (intro(u:Sum _ _);cases u <;> dsimp only)
  | intro _
def lG (f:Nat) (p0:TL) (p1:(List Int)):Option Int :=
 ((cz f p0 p1).bind fun y2=>((gn f p0 p1).bind fun y5=>((gH f p0 (tg y5 y2)).bind fun y23=>some y23.2)))
theorem qq (f:Nat) (p0:TL) (p1:(List Int)):LeO (lG f p0 p1) (jH p0 p1):=by
 unfold lG jH
 repeat' first
  | with_reducible first|apply LeO.bind|apply eo|apply jE|apply my|apply LeO.guard|apply LeO.ite|apply LeO.loop|apply LeO.fold|exact LeO.refl _
  | (intro(u:Sum _ _);cases u <;> dsimp only)
  | intro _
def dU (f:Nat) (p0:(List TH)):Option (List TH) :=
 ac (0+p0.length≤1000000000) (some (([]:List TH)++p0))
theorem iF (f:Nat) (p0:(List TH)):LeO (dU f p0) (bo p0):=by
 unfold dU bo
 repeat' first
  | with_reducible first|apply LeO.bind|apply LeO.guard|apply LeO.ite|apply LeO.loop|apply LeO.fold|exact LeO.refl _
  | (intro(u:Sum _ _);cases u <;> dsimp only)
  | intro _
def eY (f:Nat) (p0:(List TN)):Option (List TN) :=
 ac (0+p0.length≤1000000000) (some (([]:List TN)++p0))
theorem lz (f:Nat) (p0:(List TN)):LeO (eY f p0) (ch p0):=by
 unfold eY ch
 repeat' first
  | with_reducible first|apply LeO.bind|apply LeO.guard|apply LeO.ite|apply LeO.loop|apply LeO.fold|exact LeO.refl _
  | (intro(u:Sum _ _);cases u <;> dsimp only)
  | intro _
def d5 (f:Nat) (p0:(List TC)):Option (List TC) :=
 ac (0+p0.length≤1000000000) (some (([]:List TC)++p0))
theorem kC (f:Nat) (p0:(List TC)):LeO (d5 f p0) (a8 p0):=by
 unfold d5 a8
 repeat' first
  | with_reducible first|apply LeO.bind|apply LeO.guard|apply LeO.ite|apply LeO.loop|apply LeO.fold|exact LeO.refl _
  | (intro(u:Sum _ _);cases u <;> dsimp only)
  | intro _
def iy (f:Nat) (y10:(List TC)) (s22:(Int × (List TC))):Option ((Int × (List TC)) ⊕ (Int × (List TC))) :=
 (if decide (s22.1<(y10.length:Int))=true then ac ((0:Int)≤s22.1∧s22.1<(y10.length:Int)) (((dU f ((rdL s22.2 s22.1).fO)).bind fun y26=>ac ((0:Int)≤s22.1∧s22.1<(y10.length:Int)) (some (.inl (w64 (s22.1+1),(s22.2.set (Int.toNat s22.1) (TC.mk ((rdL s22.2 s22.1).fID) y26)))))))else some (.inr (s22.1,s22.2)))
theorem nj (f:Nat) (y10:(List TC)) (s22:(Int × (List TC))):LeO (iy f y10 s22) (cV y10 s22):=by
 unfold iy cV
 repeat' first
  | with_reducible first|apply LeO.bind|apply iF|apply LeO.guard|apply LeO.ite|apply LeO.loop|apply LeO.fold|exact LeO.refl _
  | (intro(u:Sum _ _);cases u <;> dsimp only)
  | intro _
def kX (f:Nat) (p0:TL):Option TL :=
 ((eY f p0.fNo).bind fun y4=>((d5 f p0.fC).bind fun y10=>((gP f (iy f y10) (0,y10)).bind fun u23=>some (TL.mk y4 u23.2))))
theorem pO (f:Nat) (p0:TL):LeO (kX f p0) (cH p0):=by
 unfold kX cH
 repeat' first
  | with_reducible first|apply LeO.bind|apply nj|apply kC|apply lz|apply LeO.guard|apply LeO.ite|apply LeO.loop|apply LeO.fold|exact LeO.refl _
  | (intro(u:Sum _ _);cases u <;> dsimp only)
  | intro _
def ma (f:Nat) (p0:TL) (p1:Int) (p2:(List TH)):Option TL :=
 ((kX f p0).bind fun y3=>((dU f p2).bind fun y22=>ac ((0:Int)≤p1∧p1<(y3.fC.length:Int)) (some (TL.mk y3.fNo (y3.fC.set (Int.toNat p1) (TC.mk ((rdL y3.fC p1).fID) y22))))))
theorem rc (f:Nat) (p0:TL) (p1:Int) (p2:(List TH)):LeO (ma f p0 p1 p2) (fj p0 p1 p2):=by
 unfold ma fj
 repeat' first
  | with_reducible first|apply LeO.bind|apply pO|apply iF|apply LeO.guard|apply LeO.ite|apply LeO.loop|apply LeO.fold|exact LeO.refl _
  | (intro(u:Sum _ _);cases u <;> dsimp only)
  | intro _
def cl (f:Nat) (p0:(List Tasking)) (p1:Tasking→Tasking→Option Bool) (s5:(Int × Int × Int)):Option ((Int × Int × Int) ⊕ (Int × Int × Int)) :=
 (if decide (s5.1<(p0.length:Int))=true then ac ((0:Int)≤s5.1∧s5.1<(p0.length:Int)) (((if(s5.1==0)=true then(some (true))else((p1 (Tasking.mk ((rdL p0 s5.1).f_id) ((rdL p0 s5.1).f_left)) (Tasking.mk s5.2.1 s5.2.2)).bind fun y14=>some (y14))).bind fun b11=>(if b11=true then some (.inl (w64 (s5.1+1),(rdL p0 s5.1).f_id,(rdL p0 s5.1).f_left))else some (.inl (w64 (s5.1+1),s5.2.1,s5.2.2)))))else some (.inr (s5.1,s5.2.1,s5.2.2)))
theorem gA (f:Nat) (p0:(List Tasking)) (p1 p1':Tasking→Tasking→Option Bool) (hp1_less:∀x0 x1,LeO (p1 x0 x1) (p1' x0 x1)) (s5:(Int × Int × Int)):LeO (cl f p0 p1 s5) (bL p0 p1' s5):=by
 unfold cl bL
 repeat' first
  | with_reducible first|apply LeO.bind|apply hp1_less|apply LeO.guard|apply LeO.ite|apply LeO.loop|apply LeO.fold|exact LeO.refl _
  | (intro(u:Sum _ _);cases u <;> dsimp only)
  | intro _
def cN (f:Nat) (p0:(List Tasking)) (p1:Tasking→Tasking→Option Bool):Option (Tasking × Bool) :=
 ((gP f (cl f p0 p1) (0,0,0)).bind fun u6=>some ((Tasking.mk u6.2.1 u6.2.2),decide (0<(p0.length:Int))))
theorem ig (f:Nat) (p0:(List Tasking)) (p1 p1':Tasking→Tasking→Option Bool) (hp1_less:∀x0 x1,LeO (p1 x0 x1) (p1' x0 x1)):LeO (cN f p0 p1) (bv p0 p1'):=by
 unfold cN bv
 repeat' first
  | with_reducible first|apply LeO.bind|apply hp1_less|apply gA|apply LeO.guard|apply LeO.ite|apply LeO.loop|apply LeO.fold|exact LeO.refl _
  | (intro(u:Sum _ _);cases u <;> dsimp only)
  | intro _
def lF (f:Nat) (p0:Tasking) (p1:Tasking):Option Bool :=
 some ((decide (p0.f_left<p1.f_left))||((p0.f_left==p1.f_left)&&(decide (p0.f_id<p1.f_id))))
theorem qx (f:Nat) (p0:Tasking) (p1:Tasking):LeO (lF f p0 p1) (ib p0 p1):=by
 unfold lF ib
 repeat' first
  | with_reducible first|apply LeO.bind|apply LeO.guard|apply LeO.ite|apply LeO.loop|apply LeO.fold|exact LeO.refl _
  | (intro(u:Sum _ _);cases u <;> dsimp only)
  | intro _
def kR (f:Nat) (p0:TL) (p1:(List Int)) (s7:(Int × (List Tasking))) (s16:(Int × Int)):Option ((Int × Int) ⊕ (Int × Int)) :=
 (if decide (s16.1<(((rdL p0.fC s7.1).fO.length:Nat):Int))=true then ac ((0:Int)≤s16.1∧s16.1≤w64 (s16.1+1)∧w64 (s16.1+1)≤w64 (s16.1+1)∧w64 (s16.1+1)≤(((rdL p0.fC s7.1).fO.length:Nat):Int)) (((ma f p0 s7.1 ((((rdL p0.fC s7.1).fO).drop (Int.toNat s16.1)).take (Int.toNat (w64 (s16.1+1))-Int.toNat s16.1))).bind fun y20=>((lG f y20 p1).bind fun y34=>some (.inl (w64 (s16.1+1),max s16.2 y34)))))else some (.inr (s16.1,s16.2)))
theorem pL (f:Nat) (p0:TL) (p1:(List Int)) (s7:(Int × (List Tasking))) (s16:(Int × Int)):LeO (kR f p0 p1 s7 s16) (kj p0 p1 s7 s16):=by
 unfold kR kj
 repeat' first
  | with_reducible first|apply LeO.bind|apply qq|apply rc|apply LeO.guard|apply LeO.ite|apply LeO.loop|apply LeO.fold|exact LeO.refl _
  | (intro(u:Sum _ _);cases u <;> dsimp only)
  | intro _
def kU (f:Nat) (p0:TL) (p1:(List Int)) (s7:(Int × (List Tasking))):Option ((Int × (List Tasking)) ⊕ (Int × (List Tasking))) :=
 (if decide (s7.1<(p0.fC.length:Int))=true then ac ((0:Int)≤s7.1∧s7.1<(p0.fC.length:Int)) ((if decide ((((rdL p0.fC s7.1).fO.length:Nat):Int)<2)=true then some (.inl (w64 (s7.1+1),s7.2))else((gP f (kR f p0 p1 s7) (0,0)).bind fun u17=>ac (s7.2.length+1≤1000000000) (some (.inl (w64 (s7.1+1),(s7.2++[(Tasking.mk ((rdL p0.fC s7.1).fID) u17.2)])))))))else some (.inr (s7.1,s7.2)))
theorem pz (f:Nat) (p0:TL) (p1:(List Int)) (s7:(Int × (List Tasking))):LeO (kU f p0 p1 s7) (km p0 p1 s7):=by
 unfold kU km
 repeat' first
  | with_reducible first|apply LeO.bind|apply pL|apply LeO.guard|apply LeO.ite|apply LeO.loop|apply LeO.fold|exact LeO.refl _
  | (intro(u:Sum _ _);cases u <;> dsimp only)
  | intro _
def mG (f:Nat) (p0:TL) (p1:(List Int)):Option (Int × Int × Int) :=
 ((eO f p0 p1).bind fun y2=>(if(y2 !=0)=true then some (0,0,y2)else((gP f (kU f p0 p1) (0,([]:List Tasking))).bind fun u8=>((cN f u8.2 (fun x54 x55=>lF f x54 x55)).bind fun y56=>(if(!y56.2)=true then some (0,0,5)else some (y56.1.f_id,y56.1.f_left,0))))))
theorem rM (f:Nat) (p0:TL) (p1:(List Int)):LeO (mG f p0 p1) (lL p0 p1):=by
 unfold mG lL
 repeat' first
  | with_reducible first|apply LeO.bind|apply qx|apply pz|apply f8|apply ig|apply LeO.guard|apply LeO.ite|apply LeO.loop|apply LeO.fold|exact LeO.refl _
  | (intro(u:Sum _ _);cases u <;> dsimp only)
  | intro _
def kb (f:Nat) (p0:Int) (p1:Int) (cap0:(List (Int × Bool))) (cap1:TL):Option Bool :=
 ac ((0:Int)≤p0∧p0<(cap1.fC.length:Int)) (ac (dA ((rdL cap1.fC p0).fID)=true) (some (!(ax false cap0 ((rdL cap1.fC p0).fID)))))
theorem pg (f:Nat) (p0:Int) (p1:Int) (cap0:(List (Int × Bool))) (cap1:TL):LeO (kb f p0 p1 cap0 cap1) (fQ p0 p1 cap0 cap1):=by
 unfold kb fQ
 repeat' first
  | with_reducible first|apply LeO.bind|apply LeO.guard|apply LeO.ite|apply LeO.loop|apply LeO.fold|exact LeO.refl _
  | (intro(u:Sum _ _);cases u <;> dsimp only)
  | intro _
def lI (f:Nat) (p0:TL) (p1:(List Int)) (p2:Int) (p3:(List (Int × Bool))):Option Bool :=
 ((eA f p0 p1 p2 (fun x3 x4=>kb f x3 x4 p3 p0)).bind fun y5=>some (!y5))
theorem qD (f:Nat) (p0:TL) (p1:(List Int)) (p2:Int) (p3:(List (Int × Bool))):LeO (lI f p0 p1 p2 p3) (jM p0 p1 p2 p3):=by
 unfold lI jM
 repeat' first
  | with_reducible first|apply LeO.bind|apply pg|apply ge|apply LeO.guard|apply LeO.ite|apply LeO.loop|apply LeO.fold|exact LeO.refl _
  | (intro(u:Sum _ _);cases u <;> dsimp only)
  | intro _
def kY (f:Nat) (p0:TL) (s11:(Int × (List (Int × Bool)))):Option ((Int × (List (Int × Bool))) ⊕ (Int × (List (Int × Bool)))) :=
 (if decide (s11.1<(p0.fC.length:Int))=true then ac ((0:Int)≤s11.1∧s11.1<(p0.fC.length:Int)) (ac (dA ((rdL p0.fC s11.1).fID)=true∧List.length s11.2<1000000000) (some (.inl (w64 (s11.1+1),(((rdL p0.fC s11.1).fID,true)::s11.2)))))else some (.inr (s11.1,s11.2)))
theorem pC (f:Nat) (p0:TL) (s11:(Int × (List (Int × Bool)))):LeO (kY f p0 s11) (ko p0 s11):=by
 unfold kY ko
 repeat' first
  | with_reducible first|apply LeO.bind|apply LeO.guard|apply LeO.ite|apply LeO.loop|apply LeO.fold|exact LeO.refl _
  | (intro(u:Sum _ _);cases u <;> dsimp only)
  | intro _
def kZ (f:Nat) (p0:TL) (p1:(List Int)) (p2:Int) (y18:(List Int)) (s26:(Int × (List (Int × Bool)))):Option ((Int × (List (Int × Bool))) ⊕ (Int × (List (Int × Bool)))) :=
 (if decide (s26.1<(y18.length:Int))=true then ac ((0:Int)≤s26.1∧s26.1<(y18.length:Int)) (ac (dA (rdL y18 s26.1)=true∧List.length s26.2<1000000000) (((lI f p0 p1 p2 (((rdL y18 s26.1),false)::s26.2)).bind fun y31=>(if(!y31)=true then ac (dA (rdL y18 s26.1)=true∧List.length (((rdL y18 s26.1),false)::s26.2)<1000000000) (some (.inl (w64 (s26.1+1),(((rdL y18 s26.1),true)::(((rdL y18 s26.1),false)::s26.2)))))else some (.inl (w64 (s26.1+1),(((rdL y18 s26.1),false)::s26.2)))))))else some (.inr (s26.1,s26.2)))
theorem pE (f:Nat) (p0:TL) (p1:(List Int)) (p2:Int) (y18:(List Int)) (s26:(Int × (List (Int × Bool)))):LeO (kZ f p0 p1 p2 y18 s26) (kh p0 p1 p2 y18 s26):=by
 unfold kZ kh
 repeat' first
  | with_reducible first|apply LeO.bind|apply qD|apply LeO.guard|apply LeO.ite|apply LeO.loop|apply LeO.fold|exact LeO.refl _
  | (intro(u:Sum _ _);cases u <;> dsimp only)
  | intro _
def mH (f:Nat) (p0:TL) (p1:(List Int)) (p2:Int):Option ((List Int) × Int) :=
 ((d8 f p0 p1 p2).bind fun y2=>(if(y2 !=0)=true then some ([],y2)else((c6 f p1 p2).bind fun y5=>(if y5=true then some ([],5)else((gP f (kY f p0) (0,[])).bind fun u12=>((bp u12.2).bind fun y18=>((gP f (kZ f p0 p1 p2 y18) (0,u12.2)).bind fun u27=>((bp u27.2).bind fun y36=>some (y36,0)))))))))
theorem rE (f:Nat) (p0:TL) (p1:(List Int)) (p2:Int):LeO (mH f p0 p1 p2) (lR p0 p1 p2):=by
 unfold mH lR
 repeat' first
  | with_reducible first|apply LeO.bind|apply pC|apply pE|apply gx|apply gy|apply LeO.guard|apply LeO.ite|apply LeO.loop|apply LeO.fold|exact LeO.refl _
  | (intro(u:Sum _ _);cases u <;> dsimp only)
  | intro _
def kS (f:Nat) (p0:TL) (p1:(List Int)):Option ((List Int) × Int) :=
 ((eO f p0 p1).bind fun y2=>(if(y2 !=0)=true then some ([],y2)else((gn f p0 p1).bind fun y5=>((bp y5).bind fun y8=>some (y8,0)))))
theorem pF (f:Nat) (p0:TL) (p1:(List Int)):LeO (kS f p0 p1) (eu p0 p1):=by
 unfold kS eu
 repeat' first
  | with_reducible first|apply LeO.bind|apply f8|apply jE|apply LeO.guard|apply LeO.ite|apply LeO.loop|apply LeO.fold|exact LeO.refl _
  | (intro(u:Sum _ _);cases u <;> dsimp only)
  | intro _
def jn (f:Nat) (p0:TL) (p1:(List Int)):Option ((List Int) × Int) :=
 ((eO f p0 p1).bind fun y2=>(if(y2 !=0)=true then some ([],y2)else((cz f p0 p1).bind fun y5=>((bp y5).bind fun y8=>some (y8,0)))))
theorem nR (f:Nat) (p0:TL) (p1:(List Int)):LeO (jn f p0 p1) (dr p0 p1):=by
 unfold jn dr
 repeat' first
  | with_reducible first|apply LeO.bind|apply f8|apply eo|apply LeO.guard|apply LeO.ite|apply LeO.loop|apply LeO.fold|exact LeO.refl _
  | (intro(u:Sum _ _);cases u <;> dsimp only)
  | intro _
def gY (f:Nat)  : Option TL :=
 some (TL.mk [(TN.mk 1 0 0),(TN.mk 2 0 0),(TN.mk 3 3 0),(TN.mk 4 3 0),(TN.mk 5 9 10),(TN.mk 6 9 7)] [(TC.mk 11 [(TH.mk 1 3)]),(TC.mk 12 [(TH.mk 1 4),(TH.mk 2 4)]),(TC.mk 13 [(TH.mk 3 5)]),(TC.mk 14 [(TH.mk 4 5),(TH.mk 4 6)])])
theorem nb (f:Nat):LeO (gY f) (eZ):=by
 unfold gY eZ
 repeat' first
  | with_reducible first|apply LeO.bind|apply LeO.guard|apply LeO.ite|apply LeO.loop|apply LeO.fold|exact LeO.refl _
  | (intro(u:Sum _ _);cases u <;> dsimp only)
  | intro _
def jr (f:Nat) (s19:Int) (x20:(List Int)):Option (Int ⊕ Unit) :=
 some (.inl (w64 (s19+1)))
theorem oz (f:Nat) (s19:Int) (x20:(List Int)):LeO (jr f s19 x20) (iD s19 x20):=by
 unfold jr iD
 repeat' first
  | with_reducible first|apply LeO.bind|apply LeO.guard|apply LeO.ite|apply LeO.loop|apply LeO.fold|exact LeO.refl _
  | (intro(u:Sum _ _);cases u <;> dsimp only)
  | intro _
def lC (f:Nat) (p0:TL):Option (Int × Int) :=
 ((gN f p0).bind fun y2=>(if(y2 !=0)=true then some (0,y2)else((eC f p0).bind fun y6=>(ac (cq p0) ((gE (jr f) (sCs p0) 0).bind fun u21=>match u21 with|.inl u24=>some (u24,0)|.inr _=>none)))))
theorem qu (f:Nat) (p0:TL):LeO (lC f p0) (jU p0):=by
 unfold lC jU
 repeat' first
  | with_reducible first|apply LeO.bind|apply oz|apply k7|apply f9|apply LeO.guard|apply LeO.ite|apply LeO.loop|apply LeO.fold|exact LeO.refl _
  | (intro(u:Sum _ _);cases u <;> dsimp only)
  | intro _
def mo (f:Nat)  : Option Bool :=
 ((gY f).bind fun y1=>((lC f y1).bind fun y20=>((kS f y1 [1]).bind fun y23=>((jn f y1 [2]).bind fun y30=>((lB f y1 [1] 6).bind fun y37=>((lE f y1 [1] 6).bind fun y44=>((mH f y1 [1] 5).bind fun y51=>((lw f y1 [2] 5).bind fun y58=>((kz f y1 [1] false).bind fun y62=>((mG f y1 [1]).bind fun y69=>((j9 f y1 5).bind fun y71=>(if((((((((((y20.2 !=0)||(y23.2 !=0))||(y30.2 !=0))||(y37.2 !=0))||(y44.2 !=0))||(y51.2 !=0))||(y58.2 !=0))||(y62.2.2 !=0))||(y69.2.2 !=0))||(y71.2.2 !=0))=true then some false else((bR f y23.1 [1,3,5]).bind fun y92=>((if y92=true then((bR f y30.1 [2,4,5,6]).bind fun y137=>some (y137))else(some (false))).bind fun b95=>((if b95=true then((bR f y37.1 [12,14]).bind fun y134=>some (y134))else(some (false))).bind fun b98=>((if b98=true then((bR f y44.1 [4]).bind fun y131=>some (y131))else(some (false))).bind fun b101=>((bR f y51.1 [13,14]).bind fun y104=>((if y104=true then((bR f y62.1 [5,6]).bind fun y128=>some (y128))else(some (false))).bind fun b107=>((if b107=true then((bR f y71.1 [1]).bind fun y125=>some (y125))else(some (false))).bind fun b110=>((if b110=true then((bR f y71.2.1 [1,2]).bind fun y122=>some (y122))else(some (false))).bind fun b113=>some ((((((b101&&b113)&&(y20.1==4))&&((y58.1.fNum==1)&&(y58.1.fDen==4)))&&(y62.2.1==17))&&(y69.1==12))&&(y69.2.1==7))))))))))))))))))))))
theorem oV (f:Nat):LeO (mo f) (fV):=by
 unfold mo fV
 repeat' first
  | with_reducible first|apply LeO.bind|apply nb|apply oU|apply rM|apply qu|apply rE|apply qe|apply qG|apply pj|apply nR|apply pN|apply qA|apply pF|apply LeO.guard|apply LeO.ite|apply LeO.loop|apply LeO.fold|exact LeO.refl _
  | (intro(u:Sum _ _);cases u <;> dsimp only)
  | intro _
end Go.Proofs.YtbblpokfbmekfaaGreat
