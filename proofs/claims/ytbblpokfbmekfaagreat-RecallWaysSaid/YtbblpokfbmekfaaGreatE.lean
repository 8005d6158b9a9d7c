import Derived.Test.YtbblpokfbmekfaaGreatP
set_option maxRecDepth 100000
set_option maxHeartbeats 4000000
set_option linter.unusedVariables false
namespace Go.Proofs.YtbblpokfbmekfaaGreat
def cY (f:Nat) (p0:(List TN)) (p1:TN→Option Bool) (s2:(Int × Int)):Option ((Int × Int) ⊕ ((Int × Int) ⊕ (Int × Int))) :=
 (if decide (s2.2<(p0.length:Int))=true then ac ((0:Int)≤s2.2∧s2.2<(p0.length:Int)) (((p1 (TN.mk ((rdL p0 s2.2).fID) ((rdL p0 s2.2).fLevel) ((rdL p0 s2.2).fCost))).bind fun y6=>(if y6=true then some (.inr (.inl (s2.2,s2.2)))else some (.inl (s2.1,w64 (s2.2+1))))))else some (.inr (.inr (s2.1,s2.2))))
theorem i7 (f:Nat) (p0:(List TN)) (p1 p1':TN→Option Bool) (hp1_f:∀x,LeO (p1 x) (p1' x)) (s2:(Int × Int)):LeO (cY f p0 p1 s2) (aQ p0 p1' s2):=by
 unfold cY aQ
 repeat' first
  | with_reducible first|apply LeO.bind|apply hp1_f|apply LeO.guard|apply LeO.ite|apply LeO.loop|apply LeO.fold|exact LeO.refl _
  | (intro(u:Sum _ _);cases u <;> dsimp only)
  | intro _
def dI (f:Nat) (p0:(List TN)) (p1:TN→Option Bool):Option Int :=
 ((gU f (cY f p0 p1) (0,0)).bind fun u3=>match u3 with|(.inl u10)=>some u10.1|(.inr u11)=>some (-1))
theorem kf (f:Nat) (p0:(List TN)) (p1 p1':TN→Option Bool) (hp1_f:∀x,LeO (p1 x) (p1' x)):LeO (dI f p0 p1) (bf p0 p1'):=by
 unfold dI bf
 repeat' first
  | with_reducible first|apply LeO.bind|apply hp1_f|apply i7|apply LeO.guard|apply LeO.ite|apply LeO.loop|apply LeO.fold|exact LeO.refl _
  | (intro(u:Sum _ _);cases u <;> dsimp only)
  | intro _
def jy (f:Nat) (p0:TN) (cap0:Int):Option Bool :=
 some (p0.fID==cap0)
theorem oM (f:Nat) (p0:TN) (cap0:Int):LeO (jy f p0 cap0) (dS p0 cap0):=by
 unfold jy dS
 repeat' first
  | with_reducible first|apply LeO.bind|apply LeO.guard|apply LeO.ite|apply LeO.loop|apply LeO.fold|exact LeO.refl _
  | (intro(u:Sum _ _);cases u <;> dsimp only)
  | intro _
def dp (f:Nat) (p0:TL) (p1:Int):Option Int :=
 ((dI f p0.fNo (fun x3=>jy f x3 p1)).bind fun y4=>some y4)
theorem fG (f:Nat) (p0:TL) (p1:Int):LeO (dp f p0 p1) (cn p0 p1):=by
 unfold dp cn
 repeat' first
  | with_reducible first|apply LeO.bind|apply oM|apply kf|apply LeO.guard|apply LeO.ite|apply LeO.loop|apply LeO.fold|exact LeO.refl _
  | (intro(u:Sum _ _);cases u <;> dsimp only)
  | intro _
def cH (f:Nat) (p0:(List TC)) (p1:TC→Option Bool) (s2:(Int × Int)):Option ((Int × Int) ⊕ ((Int × Int) ⊕ (Int × Int))) :=
 (if decide (s2.2<(p0.length:Int))=true then ac ((0:Int)≤s2.2∧s2.2<(p0.length:Int)) (((p1 (TC.mk ((rdL p0 s2.2).fID) ((rdL p0 s2.2).fO))).bind fun y6=>(if y6=true then some (.inr (.inl (s2.2,s2.2)))else some (.inl (s2.1,w64 (s2.2+1))))))else some (.inr (.inr (s2.1,s2.2))))
theorem iu (f:Nat) (p0:(List TC)) (p1 p1':TC→Option Bool) (hp1_f:∀x,LeO (p1 x) (p1' x)) (s2:(Int × Int)):LeO (cH f p0 p1 s2) (aM p0 p1' s2):=by
 unfold cH aM
 repeat' first
  | with_reducible first|apply LeO.bind|apply hp1_f|apply LeO.guard|apply LeO.ite|apply LeO.loop|apply LeO.fold|exact LeO.refl _
  | (intro(u:Sum _ _);cases u <;> dsimp only)
  | intro _
def dt (f:Nat) (p0:(List TC)) (p1:TC→Option Bool):Option Int :=
 ((gU f (cH f p0 p1) (0,0)).bind fun u3=>match u3 with|(.inl u10)=>some u10.1|(.inr u11)=>some (-1))
theorem jE (f:Nat) (p0:(List TC)) (p1 p1':TC→Option Bool) (hp1_f:∀x,LeO (p1 x) (p1' x)):LeO (dt f p0 p1) (aS p0 p1'):=by
 unfold dt aS
 repeat' first
  | with_reducible first|apply LeO.bind|apply hp1_f|apply iu|apply LeO.guard|apply LeO.ite|apply LeO.loop|apply LeO.fold|exact LeO.refl _
  | (intro(u:Sum _ _);cases u <;> dsimp only)
  | intro _
def je (f:Nat) (p0:TC) (cap0:Int):Option Bool :=
 some (p0.fID==cap0)
theorem oA (f:Nat) (p0:TC) (cap0:Int):LeO (je f p0 cap0) (dW p0 cap0):=by
 unfold je dW
 repeat' first
  | with_reducible first|apply LeO.bind|apply LeO.guard|apply LeO.ite|apply LeO.loop|apply LeO.fold|exact LeO.refl _
  | (intro(u:Sum _ _);cases u <;> dsimp only)
  | intro _
def lF (f:Nat) (p0:TL) (p1:Int):Option Int :=
 ((dt f p0.fC (fun x3=>je f x3 p1)).bind fun y4=>some y4)
theorem pZ (f:Nat) (p0:TL) (p1:Int):LeO (lF f p0 p1) (dH p0 p1):=by
 unfold lF dH
 repeat' first
  | with_reducible first|apply LeO.bind|apply oA|apply jE|apply LeO.guard|apply LeO.ite|apply LeO.loop|apply LeO.fold|exact LeO.refl _
  | (intro(u:Sum _ _);cases u <;> dsimp only)
  | intro _
def dO (f:Nat) (p0:Int) (p1:Int) (p2:Int):Option Bool :=
 some ((decide (p1≤p0))&&(decide (p0≤p2)))
theorem kw (f:Nat) (p0:Int) (p1:Int) (p2:Int):LeO (dO f p0 p1 p2) (cp p0 p1 p2):=by
 unfold dO cp
 repeat' first
  | with_reducible first|apply LeO.bind|apply LeO.guard|apply LeO.ite|apply LeO.loop|apply LeO.fold|exact LeO.refl _
  | (intro(u:Sum _ _);cases u <;> dsimp only)
  | intro _
def eX (f:Nat) (p0:(List TH)) (p1:TH) (s3:(Int × Int)):Option ((Int × Int) ⊕ ((Int × Int) ⊕ (Int × Int))) :=
 (if decide (s3.2<(p0.length:Int))=true then ac ((0:Int)≤s3.2∧s3.2<(p0.length:Int)) ((if((p1.fFrom==(rdL p0 s3.2).fFrom)&&(p1.fTo==(rdL p0 s3.2).fTo))=true then some (.inr (.inl (s3.2,s3.2)))else some (.inl (s3.1,w64 (s3.2+1)))))else some (.inr (.inr (s3.1,s3.2))))
theorem lN (f:Nat) (p0:(List TH)) (p1:TH) (s3:(Int × Int)):LeO (eX f p0 p1 s3) (bi p0 p1 s3):=by
 unfold eX bi
 repeat' first
  | with_reducible first|apply LeO.bind|apply LeO.guard|apply LeO.ite|apply LeO.loop|apply LeO.fold|exact LeO.refl _
  | (intro(u:Sum _ _);cases u <;> dsimp only)
  | intro _
def f7 (f:Nat) (p0:(List TH)) (p1:TH):Option Int :=
 ((gU f (eX f p0 p1) (0,0)).bind fun u4=>match u4 with|(.inl u9)=>some u9.1|(.inr u10)=>some (-1))
theorem mJ (f:Nat) (p0:(List TH)) (p1:TH):LeO (f7 f p0 p1) (bZ p0 p1):=by
 unfold f7 bZ
 repeat' first
  | with_reducible first|apply LeO.bind|apply lN|apply LeO.guard|apply LeO.ite|apply LeO.loop|apply LeO.fold|exact LeO.refl _
  | (intro(u:Sum _ _);cases u <;> dsimp only)
  | intro _
def eR (f:Nat) (p0:(List TH)) (p1:TH):Option Bool :=
 ((f7 f p0 p1).bind fun y2=>some (decide (0≤y2)))
theorem lL (f:Nat) (p0:(List TH)) (p1:TH):LeO (eR f p0 p1) (bG p0 p1):=by
 unfold eR bG
 repeat' first
  | with_reducible first|apply LeO.bind|apply mJ|apply LeO.guard|apply LeO.ite|apply LeO.loop|apply LeO.fold|exact LeO.refl _
  | (intro(u:Sum _ _);cases u <;> dsimp only)
  | intro _
def hQ (f:Nat) (p0:TL) (p1:(List TH)) (s6:(Bool × Int)):Option ((Bool × Int) ⊕ ((Bool × Int) ⊕ (Bool × Int))) :=
 (if decide (s6.2<(p1.length:Int))=true then ac ((0:Int)≤s6.2∧s6.2<(p1.length:Int)) (((dp f p0 ((rdL p1 s6.2).fFrom)).bind fun y11=>((dp f p0 ((rdL p1 s6.2).fTo)).bind fun y13=>((if((decide (y11<0))||(decide (y13<0)))=true then(some (true))else(ac ((0:Int)≤y11∧y11<(p0.fNo.length:Int)) (ac ((0:Int)≤y13∧y13<(p0.fNo.length:Int)) (some (decide ((rdL p0.fNo y13).fLevel≤(rdL p0.fNo y11).fLevel)))))).bind fun b17=>((if b17=true then(some (true))else(ac ((0:Int)≤s6.2∧s6.2≤(p1.length:Int)) (((eR f (p1.take (Int.toNat s6.2)) (TH.mk ((rdL p1 s6.2).fFrom) ((rdL p1 s6.2).fTo))).bind fun y24=>some (y24))))).bind fun b20=>(if b20=true then some (.inr (.inl (false,s6.2)))else some (.inl (s6.1,w64 (s6.2+1)))))))))else some (.inr (.inr (s6.1,s6.2))))
theorem nt (f:Nat) (p0:TL) (p1:(List TH)) (s6:(Bool × Int)):LeO (hQ f p0 p1 s6) (cz p0 p1 s6):=by
 unfold hQ cz
 repeat' first
  | with_reducible first|apply LeO.bind|apply fG|apply lL|apply LeO.guard|apply LeO.ite|apply LeO.loop|apply LeO.fold|exact LeO.refl _
  | (intro(u:Sum _ _);cases u <;> dsimp only)
  | intro _
def kb (f:Nat) (p0:TL) (p1:(List TH)):Option Bool :=
 ((dO f (p1.length:Int) 1 4).bind fun y2=>(if(!y2)=true then some false else((gU f (hQ f p0 p1) (false,0)).bind fun u7=>match u7 with|(.inl u29)=>some u29.1|(.inr u30)=>some true)))
theorem pk (f:Nat) (p0:TL) (p1:(List TH)):LeO (kb f p0 p1) (eQ p0 p1):=by
 unfold kb eQ
 repeat' first
  | with_reducible first|apply LeO.bind|apply nt|apply kw|apply LeO.guard|apply LeO.ite|apply LeO.loop|apply LeO.fold|exact LeO.refl _
  | (intro(u:Sum _ _);cases u <;> dsimp only)
  | intro _
def jC (f:Nat) (p0:TL) (s5:(Int × Int)):Option ((Int × Int) ⊕ ((Int × Int) ⊕ (Int × Int))) :=
 (if decide (s5.2<(p0.fNo.length:Int))=true then ac ((0:Int)≤s5.2∧s5.2<(p0.fNo.length:Int)) (((dO f ((rdL p0.fNo s5.2).fID) 1 1099511627776).bind fun y10=>((if(!y10)=true then(some (true))else((dO f ((rdL p0.fNo s5.2).fLevel) 0 9).bind fun y24=>some ((!y24)))).bind fun b13=>((if b13=true then(some (true))else((dO f ((rdL p0.fNo s5.2).fCost) 0 1073741824).bind fun y22=>some ((!y22)))).bind fun b16=>(if b16=true then some (.inr (.inl (1,s5.2)))else((dp f p0 ((rdL p0.fNo s5.2).fID)).bind fun y19=>(if decide (y19<s5.2)=true then some (.inr (.inl (6,s5.2)))else some (.inl (s5.1,w64 (s5.2+1))))))))))else some (.inr (.inr (s5.1,s5.2))))
theorem nT (f:Nat) (p0:TL) (s5:(Int × Int)):LeO (jC f p0 s5) (dg p0 s5):=by
 unfold jC dg
 repeat' first
  | with_reducible first|apply LeO.bind|apply fG|apply kw|apply LeO.guard|apply LeO.ite|apply LeO.loop|apply LeO.fold|exact LeO.refl _
  | (intro(u:Sum _ _);cases u <;> dsimp only)
  | intro _
def jm (f:Nat) (p0:TL) (s30:(Int × Int × Int)):Option ((Int × Int × Int) ⊕ ((Int × Int × Int) ⊕ (Int × Int × Int))) :=
 (if decide (s30.2.2<(p0.fC.length:Int))=true then ac ((0:Int)≤s30.2.2∧s30.2.2<(p0.fC.length:Int)) (((dO f ((rdL p0.fC s30.2.2).fID) 1 1099511627776).bind fun y35=>((if(!y35)=true then(some (true))else((kb f p0 ((rdL p0.fC s30.2.2).fO)).bind fun y44=>some ((!y44)))).bind fun b38=>(if b38=true then some (.inr (.inl (1,s30.2.1,s30.2.2)))else((lF f p0 ((rdL p0.fC s30.2.2).fID)).bind fun y41=>(if decide (y41<s30.2.2)=true then some (.inr (.inl (6,s30.2.1,s30.2.2)))else some (.inl (s30.1,min (w64 (s30.2.1*(((rdL p0.fC s30.2.2).fO.length:Nat):Int))) 4097,w64 (s30.2.2+1)))))))))else some (.inr (.inr (s30.1,s30.2.1,s30.2.2))))
theorem nM (f:Nat) (p0:TL) (s30:(Int × Int × Int)):LeO (jm f p0 s30) (dr p0 s30):=by
 unfold jm dr
 repeat' first
  | with_reducible first|apply LeO.bind|apply pZ|apply pk|apply kw|apply LeO.guard|apply LeO.ite|apply LeO.loop|apply LeO.fold|exact LeO.refl _
  | (intro(u:Sum _ _);cases u <;> dsimp only)
  | intro _
def gR (f:Nat) (p0:TL):Option Int :=
 (if((decide (60<(p0.fNo.length:Int)))||(decide (80<(p0.fC.length:Int))))=true then some 2 else((gU f (jC f p0) (0,0)).bind fun u6=>match u6 with|(.inl u27)=>some u27.1|(.inr u28)=>((gU f (jm f p0) (u28.1,1,0)).bind fun u31=>match u31 with|(.inl u47)=>some u47.1|(.inr u48)=>(if decide (4096<u48.2.1)=true then some 2 else some 0))))
theorem lj (f:Nat) (p0:TL):LeO (gR f p0) (eJ p0):=by
 unfold gR eJ
 repeat' first
  | with_reducible first|apply LeO.bind|apply nT|apply nM|apply LeO.guard|apply LeO.ite|apply LeO.loop|apply LeO.fold|exact LeO.refl _
  | (intro(u:Sum _ _);cases u <;> dsimp only)
  | intro _
def iW (f:Nat) (p0:Int):Option Bool :=
 some (p0 !=p0)
theorem qj (f:Nat) (p0:Int):LeO (iW f p0) (df p0):=by
 unfold iW df
 repeat' first
  | with_reducible first|apply LeO.bind|apply LeO.guard|apply LeO.ite|apply LeO.loop|apply LeO.fold|exact LeO.refl _
  | (intro(u:Sum _ _);cases u <;> dsimp only)
  | intro _
def jx (f:Nat) (p0:TL) (p1:Int) (s5:(Int × (List (Int × Bool)))):Option ((Int × (List (Int × Bool))) ⊕ (Int × (List (Int × Bool)))) :=
 (if decide (s5.1<(p0.fNo.length:Int))=true then ac ((0:Int)≤s5.1∧s5.1<(p0.fNo.length:Int)) ((if(((rdL p0.fNo s5.1).fLevel)==p1)=true then ac (cX ((rdL p0.fNo s5.1).fID)=true∧List.length s5.2<1000000000) (some (.inl (w64 (s5.1+1),(((rdL p0.fNo s5.1).fID,true)::s5.2))))else some (.inl (w64 (s5.1+1),s5.2))))else some (.inr (s5.1,s5.2)))
theorem oH (f:Nat) (p0:TL) (p1:Int) (s5:(Int × (List (Int × Bool)))):LeO (jx f p0 p1 s5) (iL p0 p1 s5):=by
 unfold jx iL
 repeat' first
  | with_reducible first|apply LeO.bind|apply LeO.guard|apply LeO.ite|apply LeO.loop|apply LeO.fold|exact LeO.refl _
  | (intro(u:Sum _ _);cases u <;> dsimp only)
  | intro _
def lU (f:Nat) (p0:TL) (p1:Int):Option (List (Int × Bool)) :=
 ((gU f (jx f p0 p1) (0,[])).bind fun u6=>some u6.2)
theorem rf (f:Nat) (p0:TL) (p1:Int):LeO (lU f p0 p1) (jY p0 p1):=by
 unfold lU jY
 repeat' first
  | with_reducible first|apply LeO.bind|apply oH|apply LeO.guard|apply LeO.ite|apply LeO.loop|apply LeO.fold|exact LeO.refl _
  | (intro(u:Sum _ _);cases u <;> dsimp only)
  | intro _
def kr (f:Nat) (p0:TL):Option (List Int) :=
 ((lU f p0 0).bind fun y2=>((bt y2).bind fun y5=>some y5))
theorem o8 (f:Nat) (p0:TL):LeO (kr f p0) (gQ p0):=by
 unfold kr gQ
 repeat' first
  | with_reducible first|apply LeO.bind|apply rf|apply LeO.guard|apply LeO.ite|apply LeO.loop|apply LeO.fold|exact LeO.refl _
  | (intro(u:Sum _ _);cases u <;> dsimp only)
  | intro _
def eS (f:Nat) (p0:TL):Option Unit :=
 some ()
theorem gm (f:Nat) (p0:TL):LeO (eS f p0) (cv p0):=by
 unfold eS cv
 repeat' first
  | with_reducible first|apply LeO.bind|apply LeO.guard|apply LeO.ite|apply LeO.loop|apply LeO.fold|exact LeO.refl _
  | (intro(u:Sum _ _);cases u <;> dsimp only)
  | intro _
def cj (f:Nat) (p0:(List Int)) (p1:Int) (p3:Int→Int→Option Int) (s8:(Int × (List Int))):Option ((Int × (List Int)) ⊕ (Int × (List Int))) :=
 ((if decide (p1<s8.1)=true then(ac ((0:Int)≤s8.1∧s8.1<(p0.length:Int)) (ac ((0:Int)≤w64 (s8.1-1)∧w64 (s8.1-1)<(p0.length:Int)) (((p3 (rdL s8.2 s8.1) (rdL s8.2 (w64 (s8.1-1)))).bind fun y21=>some (decide (y21<0))))))else(some (false))).bind fun b11=>(if b11=true then ac ((0:Int)≤w64 (s8.1-1)∧w64 (s8.1-1)<(p0.length:Int)) (ac ((0:Int)≤s8.1∧s8.1<(p0.length:Int)) (ac ((0:Int)≤s8.1∧s8.1<(p0.length:Int)) (ac ((0:Int)≤w64 (s8.1-1)∧w64 (s8.1-1)<(p0.length:Int)) (some (.inl (w64 (s8.1-1),((s8.2.set (Int.toNat s8.1) (rdL s8.2 (w64 (s8.1-1)))).set (Int.toNat (w64 (s8.1-1))) (rdL s8.2 s8.1))))))))else some (.inr (s8.1,s8.2))))
theorem gN (f:Nat) (p0:(List Int)) (p1:Int) (p3 p3':Int→Int→Option Int) (hp3_cmp:∀x0 x1,LeO (p3 x0 x1) (p3' x0 x1)) (s8:(Int × (List Int))):LeO (cj f p0 p1 p3 s8) (aI p0 p1 p3' s8):=by
 unfold cj aI
 repeat' first
  | with_reducible first|apply LeO.bind|apply hp3_cmp|apply LeO.guard|apply LeO.ite|apply LeO.loop|apply LeO.fold|exact LeO.refl _
  | (intro(u:Sum _ _);cases u <;> dsimp only)
  | intro _
def ck (f:Nat) (p0:(List Int)) (p1:Int) (p2:Int) (p3:Int→Int→Option Int) (s3:(Int × (List Int))):Option ((Int × (List Int)) ⊕ (Int × (List Int))) :=
 (if decide (s3.1<p2)=true then((gU f (cj f p0 p1 p3) (s3.1,s3.2)).bind fun u9=>some (.inl (w64 (s3.1+1),u9.2)))else some (.inr (s3.1,s3.2)))
theorem gO (f:Nat) (p0:(List Int)) (p1:Int) (p2:Int) (p3 p3':Int→Int→Option Int) (hp3_cmp:∀x0 x1,LeO (p3 x0 x1) (p3' x0 x1)) (s3:(Int × (List Int))):LeO (ck f p0 p1 p2 p3 s3) (aB p0 p1 p2 p3' s3):=by
 unfold ck aB
 repeat' first
  | with_reducible first|apply LeO.bind|apply hp3_cmp|apply gN|apply LeO.guard|apply LeO.ite|apply LeO.loop|apply LeO.fold|exact LeO.refl _
  | (intro(u:Sum _ _);cases u <;> dsimp only)
  | intro _
def cM (f:Nat) (p0:(List Int)) (p1:Int) (p2:Int) (p3:Int→Int→Option Int):Option (List Int) :=
 ((gU f (ck f p0 p1 p2 p3) (w64 (p1+1),p0)).bind fun u4=>some u4.2)
theorem ip (f:Nat) (p0:(List Int)) (p1:Int) (p2:Int) (p3 p3':Int→Int→Option Int) (hp3_cmp:∀x0 x1,LeO (p3 x0 x1) (p3' x0 x1)):LeO (cM f p0 p1 p2 p3) (aU p0 p1 p2 p3'):=by
 unfold cM aU
 repeat' first
  | with_reducible first|apply LeO.bind|apply hp3_cmp|apply gO|apply LeO.guard|apply LeO.ite|apply LeO.loop|apply LeO.fold|exact LeO.refl _
  | (intro(u:Sum _ _);cases u <;> dsimp only)
  | intro _
def dE (f:Nat) (p1:Int) (s2:(Int × Int)):Option ((Int × Int) ⊕ (Int × Int)) :=
 ac (decide (s2.2≤p1)=false) (some (.inr (s2.1,s2.2)))
theorem jZ (f:Nat) (p1:Int) (s2:(Int × Int)):LeO (dE f p1 s2) (bv p1 s2):=by
 unfold dE bv
 repeat' first
  | with_reducible first|apply LeO.bind|apply LeO.guard|apply LeO.ite|apply LeO.loop|apply LeO.fold|exact LeO.refl _
  | (intro(u:Sum _ _);cases u <;> dsimp only)
  | intro _
def dB (f:Nat) (p1:Int) (s10:(Int × Int × Int)):Option ((Int × Int × Int) ⊕ (Int × Int × Int)) :=
 ac (decide (s10.1<p1)=false) (some (.inr (s10.1,s10.2.1,s10.2.2)))
theorem jV (f:Nat) (p1:Int) (s10:(Int × Int × Int)):LeO (dB f p1 s10) (bz p1 s10):=by
 unfold dB bz
 repeat' first
  | with_reducible first|apply LeO.bind|apply LeO.guard|apply LeO.ite|apply LeO.loop|apply LeO.fold|exact LeO.refl _
  | (intro(u:Sum _ _);cases u <;> dsimp only)
  | intro _
def d8 (f:Nat) (p0:(List Int)) (p1:Int) (p2:Int→Int→Option Int):Option (List Int) :=
 ((gU f (dE f p1) (0,20)).bind fun u3=>((cM f p0 u3.1 p1 p2).bind fun y6=>((gU f (dB f p1) (20,u3.1,u3.2)).bind fun u11=>some y6)))
theorem lB (f:Nat) (p0:(List Int)) (p1:Int) (p2 p2':Int→Int→Option Int) (hp2_cmp:∀x0 x1,LeO (p2 x0 x1) (p2' x0 x1)):LeO (d8 f p0 p1 p2) (bO p0 p1 p2'):=by
 unfold d8 bO
 repeat' first
  | with_reducible first|apply LeO.bind|apply hp2_cmp|apply ip|apply jZ|apply jV|apply LeO.guard|apply LeO.ite|apply LeO.loop|apply LeO.fold|exact LeO.refl _
  | (intro(u:Sum _ _);cases u <;> dsimp only)
  | intro _
def cZ (f:Nat) (p0:(List Int)) (p1:Int→Int→Option Int):Option (List Int) :=
 ((d8 f p0 (p0.length:Int) p1).bind fun y1=>some y1)
theorem ja (f:Nat) (p0:(List Int)) (p1 p1':Int→Int→Option Int) (hp1_cmp:∀x0 x1,LeO (p1 x0 x1) (p1' x0 x1)):LeO (cZ f p0 p1) (bg p0 p1'):=by
 unfold cZ bg
 repeat' first
  | with_reducible first|apply LeO.bind|apply hp1_cmp|apply lB|apply LeO.guard|apply LeO.ite|apply LeO.loop|apply LeO.fold|exact LeO.refl _
  | (intro(u:Sum _ _);cases u <;> dsimp only)
  | intro _
def jf (f:Nat) (p0:Int) (p1:Int):Option Int :=
 ((iW f p0).bind fun y1=>((iW f p1).bind fun y3=>(if y1=true then(if y3=true then some 0 else some (-1))else(if y3=true then some 1 else(if decide (p0<p1)=true then some (-1)else(if decide (p1<p0)=true then some 1 else some 0))))))
theorem oc (f:Nat) (p0:Int) (p1:Int):LeO (jf f p0 p1) (dR p0 p1):=by
 unfold jf dR
 repeat' first
  | with_reducible first|apply LeO.bind|apply qj|apply LeO.guard|apply LeO.ite|apply LeO.loop|apply LeO.fold|exact LeO.refl _
  | (intro(u:Sum _ _);cases u <;> dsimp only)
  | intro _
def jo (f:Nat) (p0:Int) (p1:Int) (cap0:TL):Option Int :=
 ac ((0:Int)≤p0∧p0<(cap0.fNo.length:Int)) (ac ((0:Int)≤p1∧p1<(cap0.fNo.length:Int)) (((jf f ((rdL cap0.fNo p0).fLevel) ((rdL cap0.fNo p1).fLevel)).bind fun y3=>some y3)))
theorem oe (f:Nat) (p0:Int) (p1:Int) (cap0:TL):LeO (jo f p0 p1 cap0) (du p0 p1 cap0):=by
 unfold jo du
 repeat' first
  | with_reducible first|apply LeO.bind|apply oc|apply LeO.guard|apply LeO.ite|apply LeO.loop|apply LeO.fold|exact LeO.refl _
  | (intro(u:Sum _ _);cases u <;> dsimp only)
  | intro _
def iT (f:Nat) (p0:TL) (s6:(Int × (List Int))):Option ((Int × (List Int)) ⊕ (Int × (List Int))) :=
 (if decide (s6.1<((Int.toNat (p0.fNo.length:Int):Nat):Int))=true then ac ((0:Int)≤s6.1∧s6.1<((Int.toNat (p0.fNo.length:Int):Nat):Int)) (some (.inl (w64 (s6.1+1),(s6.2.set (Int.toNat s6.1) s6.1))))else some (.inr (s6.1,s6.2)))
theorem nC (f:Nat) (p0:TL) (s6:(Int × (List Int))):LeO (iT f p0 s6) (cU p0 s6):=by
 unfold iT cU
 repeat' first
  | with_reducible first|apply LeO.bind|apply LeO.guard|apply LeO.ite|apply LeO.loop|apply LeO.fold|exact LeO.refl _
  | (intro(u:Sum _ _);cases u <;> dsimp only)
  | intro _
def ld (f:Nat) (p0:TL):Option (List Int) :=
 ac ((0:Int)≤(p0.fNo.length:Int)∧(p0.fNo.length:Int)*8≤281474976710656) (((gU f (iT f p0) (0,(List.replicate (Int.toNat (p0.fNo.length:Int)) 0))).bind fun u7=>((cZ f u7.2 (fun x11 x12=>jo f x11 x12 p0)).bind fun y13=>some y13)))
theorem qg (f:Nat) (p0:TL):LeO (ld f p0) (fx p0):=by
 unfold ld fx
 repeat' first
  | with_reducible first|apply LeO.bind|apply oe|apply nC|apply ja|apply LeO.guard|apply LeO.ite|apply LeO.loop|apply LeO.fold|exact LeO.refl _
  | (intro(u:Sum _ _);cases u <;> dsimp only)
  | intro _
def jk (f:Nat) (p0:TL) (p2:Int→Int→Option Bool) (s5:(Int × (List (Int × (List Int))))) (s12:(Int × (List (Int × (List Int))))):Option ((Int × (List (Int × (List Int)))) ⊕ (Int × (List (Int × (List Int))))) :=
 (if decide (s12.1<(((rdL p0.fC s5.1).fO.length:Nat):Int))=true then ac ((0:Int)≤s12.1∧s12.1<(((rdL p0.fC s5.1).fO.length:Nat):Int)) (((p2 s5.1 s12.1).bind fun y17=>(if y17=true then ac (cX ((rdL ((rdL p0.fC s5.1).fO) s12.1).fFrom)=true) (ac ((aw [] s12.2 ((rdL ((rdL p0.fC s5.1).fO) s12.1).fFrom)).length+1≤1000000000) (ac (cX ((rdL ((rdL p0.fC s5.1).fO) s12.1).fFrom)=true∧List.length s12.2<1000000000) (some (.inl (w64 (s12.1+1),(((rdL ((rdL p0.fC s5.1).fO) s12.1).fFrom,((aw [] s12.2 ((rdL ((rdL p0.fC s5.1).fO) s12.1).fFrom))++[(rdL ((rdL p0.fC s5.1).fO) s12.1).fTo]))::s12.2))))))else some (.inl (w64 (s12.1+1),s12.2)))))else some (.inr (s12.1,s12.2)))
theorem oo (f:Nat) (p0:TL) (p2 p2':Int→Int→Option Bool) (hp2_so:∀x0 x1,LeO (p2 x0 x1) (p2' x0 x1)) (s5:(Int × (List (Int × (List Int))))) (s12:(Int × (List (Int × (List Int))))):LeO (jk f p0 p2 s5 s12) (dl p0 p2' s5 s12):=by
 unfold jk dl
 repeat' first
  | with_reducible first|apply LeO.bind|apply hp2_so|apply LeO.guard|apply LeO.ite|apply LeO.loop|apply LeO.fold|exact LeO.refl _
  | (intro(u:Sum _ _);cases u <;> dsimp only)
  | intro _
def jA (f:Nat) (p0:TL) (p2:Int→Int→Option Bool) (s5:(Int × (List (Int × (List Int))))):Option ((Int × (List (Int × (List Int)))) ⊕ (Int × (List (Int × (List Int))))) :=
 (if decide (s5.1<(p0.fC.length:Int))=true then ac ((0:Int)≤s5.1∧s5.1<(p0.fC.length:Int)) (((gU f (jk f p0 p2 s5) (0,s5.2)).bind fun u13=>some (.inl (w64 (s5.1+1),u13.2))))else some (.inr (s5.1,s5.2)))
theorem nP (f:Nat) (p0:TL) (p2 p2':Int→Int→Option Bool) (hp2_so:∀x0 x1,LeO (p2 x0 x1) (p2' x0 x1)) (s5:(Int × (List (Int × (List Int))))):LeO (jA f p0 p2 s5) (dn p0 p2' s5):=by
 unfold jA dn
 repeat' first
  | with_reducible first|apply LeO.bind|apply hp2_so|apply oo|apply LeO.guard|apply LeO.ite|apply LeO.loop|apply LeO.fold|exact LeO.refl _
  | (intro(u:Sum _ _);cases u <;> dsimp only)
  | intro _
def jB (f:Nat) (p1:(List Int)) (s32:(Int × (List (Int × Bool)))):Option ((Int × (List (Int × Bool))) ⊕ (Int × (List (Int × Bool)))) :=
 (if decide (s32.1<(p1.length:Int))=true then ac ((0:Int)≤s32.1∧s32.1<(p1.length:Int)) (ac (cX (rdL p1 s32.1)=true∧List.length s32.2<1000000000) (some (.inl (w64 (s32.1+1),(((rdL p1 s32.1),true)::s32.2)))))else some (.inr (s32.1,s32.2)))
theorem oR (f:Nat) (p1:(List Int)) (s32:(Int × (List (Int × Bool)))):LeO (jB f p1 s32) (dV p1 s32):=by
 unfold jB dV
 repeat' first
  | with_reducible first|apply LeO.bind|apply LeO.guard|apply LeO.ite|apply LeO.loop|apply LeO.fold|exact LeO.refl _
  | (intro(u:Sum _ _);cases u <;> dsimp only)
  | intro _
def jz (f:Nat) (p0:TL) (u6:(Int × (List (Int × (List Int))))) (y38:(List Int)) (s46:(Int × (List (Int × Bool)))) (s56:(Int × (List (Int × Bool)))):Option ((Int × (List (Int × Bool))) ⊕ (Int × (List (Int × Bool)))) :=
 (if decide (s56.1<(((aw [] u6.2 ((rdL p0.fNo (rdL y38 s46.1)).fID)).length:Nat):Int))=true then ac ((0:Int)≤s56.1∧s56.1<(((aw [] u6.2 ((rdL p0.fNo (rdL y38 s46.1)).fID)).length:Nat):Int)) (ac (cX (rdL (aw [] u6.2 ((rdL p0.fNo (rdL y38 s46.1)).fID)) s56.1)=true∧List.length s56.2<1000000000) (some (.inl (w64 (s56.1+1),(((rdL (aw [] u6.2 ((rdL p0.fNo (rdL y38 s46.1)).fID)) s56.1),true)::s56.2)))))else some (.inr (s56.1,s56.2)))
theorem oD (f:Nat) (p0:TL) (u6:(Int × (List (Int × (List Int))))) (y38:(List Int)) (s46:(Int × (List (Int × Bool)))) (s56:(Int × (List (Int × Bool)))):LeO (jz f p0 u6 y38 s46 s56) (dT p0 u6 y38 s46 s56):=by
 unfold jz dT
 repeat' first
  | with_reducible first|apply LeO.bind|apply LeO.guard|apply LeO.ite|apply LeO.loop|apply LeO.fold|exact LeO.refl _
  | (intro(u:Sum _ _);cases u <;> dsimp only)
  | intro _
def jv (f:Nat) (p0:TL) (u6:(Int × (List (Int × (List Int))))) (y38:(List Int)) (s46:(Int × (List (Int × Bool)))):Option ((Int × (List (Int × Bool))) ⊕ (Int × (List (Int × Bool)))) :=
 (if decide (s46.1<(y38.length:Int))=true then ac ((0:Int)≤s46.1∧s46.1<(y38.length:Int)) (ac ((0:Int)≤(rdL y38 s46.1)∧(rdL y38 s46.1)<(p0.fNo.length:Int)) (ac (cX ((rdL p0.fNo (rdL y38 s46.1)).fID)=true) ((if(!(aw false s46.2 ((rdL p0.fNo (rdL y38 s46.1)).fID)))=true then some (.inl (w64 (s46.1+1),s46.2))else ac (cX ((rdL p0.fNo (rdL y38 s46.1)).fID)=true) (((gU f (jz f p0 u6 y38 s46) (0,s46.2)).bind fun u57=>some (.inl (w64 (s46.1+1),u57.2))))))))else some (.inr (s46.1,s46.2)))
theorem oG (f:Nat) (p0:TL) (u6:(Int × (List (Int × (List Int))))) (y38:(List Int)) (s46:(Int × (List (Int × Bool)))):LeO (jv f p0 u6 y38 s46) (dm p0 u6 y38 s46):=by
 unfold jv dm
 repeat' first
  | with_reducible first|apply LeO.bind|apply oD|apply LeO.guard|apply LeO.ite|apply LeO.loop|apply LeO.fold|exact LeO.refl _
  | (intro(u:Sum _ _);cases u <;> dsimp only)
  | intro _
def eV (f:Nat) (p0:TL) (p1:(List Int)) (p2:Int→Int→Option Bool):Option (List (Int × Bool)) :=
 ((gU f (jA f p0 p2) (0,([]:(List (Int × (List Int)))))).bind fun u6=>((gU f (jB f p1) (0,[])).bind fun u33=>((ld f p0).bind fun y38=>((gU f (jv f p0 u6 y38) (0,u33.2)).bind fun u47=>some u47.2))))
theorem gt (f:Nat) (p0:TL) (p1:(List Int)) (p2 p2':Int→Int→Option Bool) (hp2_so:∀x0 x1,LeO (p2 x0 x1) (p2' x0 x1)):LeO (eV f p0 p1 p2) (rcR p0 p1 p2'):=by
 unfold eV rcR
 repeat' first
  | with_reducible first|apply LeO.bind|apply hp2_so|apply qg|apply nP|apply oR|apply oG|apply LeO.guard|apply LeO.ite|apply LeO.loop|apply LeO.fold|exact LeO.refl _
  | (intro(u:Sum _ _);cases u <;> dsimp only)
  | intro _
def ez (f:Nat) (p0:(List Int)) (p1:Int) (p2:Int):Option Bool :=
 ac ((0:Int)≤p1∧p1<(p0.length:Int)) (some ((rdL p0 p1)==p2))
theorem g7 (f:Nat) (p0:(List Int)) (p1:Int) (p2:Int):LeO (ez f p0 p1 p2) (aN p0 p1 p2):=by
 unfold ez aN
 repeat' first
  | with_reducible first|apply LeO.bind|apply LeO.guard|apply LeO.ite|apply LeO.loop|apply LeO.fold|exact LeO.refl _
  | (intro(u:Sum _ _);cases u <;> dsimp only)
  | intro _
def gn (f:Nat) (p0:(List Int)):Option Unit :=
 some ()
theorem ko (f:Nat) (p0:(List Int)):LeO (gn f p0) (bM p0):=by
 unfold gn bM
 repeat' first
  | with_reducible first|apply LeO.bind|apply LeO.guard|apply LeO.ite|apply LeO.loop|apply LeO.fold|exact LeO.refl _
  | (intro(u:Sum _ _);cases u <;> dsimp only)
  | intro _
def gM (f:Nat) (p0:TL) (p1:(List Int)) (s18:(List (Int × Bool))) (x19:(List Int)):Option ((List (Int × Bool)) ⊕ Unit) :=
 ((gn f x19).bind fun y21=>((eV f p0 p1 (fun x23 x24=>ez f x19 x23 x24)).bind fun y25=>ac (List.length s18+List.length y25≤1000000) (some (.inl (lQ true y25 s18)))))
theorem m8 (f:Nat) (p0:TL) (p1:(List Int)) (s18:(List (Int × Bool))) (x19:(List Int)):LeO (gM f p0 p1 s18 x19) (dz p0 p1 s18 x19):=by
 unfold gM dz
 repeat' first
  | with_reducible first|apply LeO.bind|apply g7|apply ko|apply gt|apply LeO.guard|apply LeO.ite|apply LeO.loop|apply LeO.fold|exact LeO.refl _
  | (intro(u:Sum _ _);cases u <;> dsimp only)
  | intro _
def ct (f:Nat) (p0:TL) (p1:(List Int)):Option (List (Int × Bool)) :=
 ((eS f p0).bind fun y5=>(ac (bX p0) ((fz (gM f p0 p1) (sCs p0) []).bind fun u20=>match u20 with|.inl u45=>some u45|.inr _=>none)))
theorem eD (f:Nat) (p0:TL) (p1:(List Int)):LeO (ct f p0 p1) (bI p0 p1):=by
 unfold ct bI
 repeat' first
  | with_reducible first|apply LeO.bind|apply gm|apply m8|apply LeO.guard|apply LeO.ite|apply LeO.loop|apply LeO.fold|exact LeO.refl _
  | (intro(u:Sum _ _);cases u <;> dsimp only)
  | intro _
def km (f:Nat) (p0:TL) (p1:(List Int)) (s20:(List (Int × Bool))) (x21:(List Int)):Option ((List (Int × Bool)) ⊕ Unit) :=
 ((gn f x21).bind fun y23=>((eV f p0 p1 (fun x25 x26=>ez f x21 x25 x26)).bind fun y27=>some (.inl (s20.filter (fun p => !(fun y33=>(!(aw false y27 y33))) p.1)))))
theorem po (f:Nat) (p0:TL) (p1:(List Int)) (s20:(List (Int × Bool))) (x21:(List Int)):LeO (km f p0 p1 s20 x21) (fZ p0 p1 s20 x21):=by
 unfold km fZ
 repeat' first
  | with_reducible first|apply LeO.bind|apply g7|apply ko|apply gt|apply LeO.guard|apply LeO.ite|apply LeO.loop|apply LeO.fold|exact LeO.refl _
  | (intro(u:Sum _ _);cases u <;> dsimp only)
  | intro _
def gF (f:Nat) (p0:TL) (p1:(List Int)):Option (List (Int × Bool)) :=
 ((ct f p0 p1).bind fun y3=>((eS f p0).bind fun y7=>(ac (bX p0) ((fz (km f p0 p1) (sCs p0) y3).bind fun u22=>match u22 with|.inl u48=>some u48|.inr _=>none))))
theorem jL (f:Nat) (p0:TL) (p1:(List Int)):LeO (gF f p0 p1) (eM p0 p1):=by
 unfold gF eM
 repeat' first
  | with_reducible first|apply LeO.bind|apply gm|apply eD|apply po|apply LeO.guard|apply LeO.ite|apply LeO.loop|apply LeO.fold|exact LeO.refl _
  | (intro(u:Sum _ _);cases u <;> dsimp only)
  | intro _
def g0 (f:Nat) (p0:TL) (p1:Int) (y8:(List Int)) (s16:(Int × (List Int) × (List Int))):Option ((Int × (List Int) × (List Int)) ⊕ (Int × (List Int) × (List Int))) :=
 (if decide (s16.1<(y8.length:Int))=true then ac ((0:Int)≤s16.1∧s16.1<(y8.length:Int)) (((gF f p0 [(rdL y8 s16.1)]).bind fun y21=>ac (cX p1=true) ((if aw false y21 p1=true then ac (s16.2.1.length+1≤1000000000) (((ct f p0 [(rdL y8 s16.1)]).bind fun y31=>ac (cX p1=true) ((if aw false y31 p1=true then ac (s16.2.2.length+1≤1000000000) (some (.inl (w64 (s16.1+1),(s16.2.1++[(rdL y8 s16.1)]),(s16.2.2++[(rdL y8 s16.1)]))))else some (.inl (w64 (s16.1+1),(s16.2.1++[(rdL y8 s16.1)]),s16.2.2))))))else((ct f p0 [(rdL y8 s16.1)]).bind fun y41=>ac (cX p1=true) ((if aw false y41 p1=true then ac (s16.2.2.length+1≤1000000000) (some (.inl (w64 (s16.1+1),s16.2.1,(s16.2.2++[(rdL y8 s16.1)]))))else some (.inl (w64 (s16.1+1),s16.2.1,s16.2.2)))))))))else some (.inr (s16.1,s16.2.1,s16.2.2)))
theorem ns (f:Nat) (p0:TL) (p1:Int) (y8:(List Int)) (s16:(Int × (List Int) × (List Int))):LeO (g0 f p0 p1 y8 s16) (gA p0 p1 y8 s16):=by
 unfold g0 gA
 repeat' first
  | with_reducible first|apply LeO.bind|apply eD|apply jL|apply LeO.guard|apply LeO.ite|apply LeO.loop|apply LeO.fold|exact LeO.refl _
  | (intro(u:Sum _ _);cases u <;> dsimp only)
  | intro _
def kc (f:Nat) (p0:TL) (p1:Int):Option ((List Int) × (List Int) × Int) :=
 ((gR f p0).bind fun y2=>(if(y2 !=0)=true then some ([],[],y2)else((dp f p0 p1).bind fun y5=>(if decide (y5<0)=true then some ([],[],5)else((kr f p0).bind fun y8=>((gU f (g0 f p0 p1 y8) (0,([]:List Int),([]:List Int))).bind fun u17=>some (u17.2.1,u17.2.2,0)))))))
theorem o4 (f:Nat) (p0:TL) (p1:Int):LeO (kc f p0 p1) (gX p0 p1):=by
 unfold kc gX
 repeat' first
  | with_reducible first|apply LeO.bind|apply lj|apply ns|apply o8|apply fG|apply LeO.guard|apply LeO.ite|apply LeO.loop|apply LeO.fold|exact LeO.refl _
  | (intro(u:Sum _ _);cases u <;> dsimp only)
  | intro _
def d7 (f:Nat) (p0:(List Int)) (p1:Int→Option Int) (p2:Int→Option Bool) (s2:(Bool × Int)):Option ((Bool × Int) ⊕ ((Bool × Int) ⊕ (Bool × Int))) :=
 (if decide (s2.2<(p0.length:Int))=true then ac ((0:Int)≤s2.2∧s2.2<(p0.length:Int)) (((p1 (rdL p0 s2.2)).bind fun y6=>((p2 y6).bind fun y8=>((if(!y8)=true then(some (true))else((if decide (0<s2.2)=true then((p1 (rdL p0 s2.2)).bind fun y17=>ac ((0:Int)≤w64 (s2.2-1)∧w64 (s2.2-1)<(p0.length:Int)) (((p1 (rdL p0 (w64 (s2.2-1)))).bind fun y20=>some (decide (y17≤y20)))))else(some (false))).bind fun b15=>some (b15))).bind fun b11=>(if b11=true then some (.inr (.inl (false,s2.2)))else some (.inl (s2.1,w64 (s2.2+1))))))))else some (.inr (.inr (s2.1,s2.2))))
theorem lC (f:Nat) (p0:(List Int)) (p1 p1':Int→Option Int) (hp1_id:∀x,LeO (p1 x) (p1' x)) (p2 p2':Int→Option Bool) (hp2_so:∀x,LeO (p2 x) (p2' x)) (s2:(Bool × Int)):LeO (d7 f p0 p1 p2 s2) (bd p0 p1' p2' s2):=by
 unfold d7 bd
 repeat' first
  | with_reducible first|apply LeO.bind|apply hp1_id|apply hp2_so|apply LeO.guard|apply LeO.ite|apply LeO.loop|apply LeO.fold|exact LeO.refl _
  | (intro(u:Sum _ _);cases u <;> dsimp only)
  | intro _
def fy (f:Nat) (p0:(List Int)) (p1:Int→Option Int) (p2:Int→Option Bool):Option Bool :=
 ((gU f (d7 f p0 p1 p2) (false,0)).bind fun u3=>match u3 with|(.inl u23)=>some u23.1|(.inr u24)=>some true)
theorem mm (f:Nat) (p0:(List Int)) (p1 p1':Int→Option Int) (hp1_id:∀x,LeO (p1 x) (p1' x)) (p2 p2':Int→Option Bool) (hp2_so:∀x,LeO (p2 x) (p2' x)):LeO (fy f p0 p1 p2) (bQ p0 p1' p2'):=by
 unfold fy bQ
 repeat' first
  | with_reducible first|apply LeO.bind|apply hp1_id|apply hp2_so|apply lC|apply LeO.guard|apply LeO.ite|apply LeO.loop|apply LeO.fold|exact LeO.refl _
  | (intro(u:Sum _ _);cases u <;> dsimp only)
  | intro _
def m4 (f:Nat) (p0:Int):Option Int :=
 some p0
theorem ta (f:Nat) (p0:Int):LeO (m4 f p0) (fX p0):=by
 unfold m4 fX
 repeat' first
  | with_reducible first|apply LeO.bind|apply LeO.guard|apply LeO.ite|apply LeO.loop|apply LeO.fold|exact LeO.refl _
  | (intro(u:Sum _ _);cases u <;> dsimp only)
  | intro _
def jt (f:Nat) (p0:Int) (cap0:TL):Option Bool :=
 ((dp f cap0 p0).bind fun y1=>some (decide (0≤y1)))
theorem oF (f:Nat) (p0:Int) (cap0:TL):LeO (jt f p0 cap0) (dk p0 cap0):=by
 unfold jt dk
 repeat' first
  | with_reducible first|apply LeO.bind|apply fG|apply LeO.guard|apply LeO.ite|apply LeO.loop|apply LeO.fold|exact LeO.refl _
  | (intro(u:Sum _ _);cases u <;> dsimp only)
  | intro _
def lq (f:Nat) (p0:TL) (p1:(List Int)):Option Bool :=
 ((if decide (0<(p1.length:Int))=true then((fy f p1 (fun x5=>m4 f x5) (fun x6=>jt f x6 p0)).bind fun y7=>some (y7))else(some (false))).bind fun b3=>some b3)
theorem pT (f:Nat) (p0:TL) (p1:(List Int)):LeO (lq f p0 p1) (fw p0 p1):=by
 unfold lq fw
 repeat' first
  | with_reducible first|apply LeO.bind|apply mm|apply oF|apply ta|apply LeO.guard|apply LeO.ite|apply LeO.loop|apply LeO.fold|exact LeO.refl _
  | (intro(u:Sum _ _);cases u <;> dsimp only)
  | intro _
def eK (f:Nat) (p0:TL) (p1:(List Int)):Option Int :=
 ((gR f p0).bind fun y2=>(if(y2 !=0)=true then some y2 else((lq f p0 p1).bind fun y5=>(if(!y5)=true then some 1 else some 0))))
theorem gp (f:Nat) (p0:TL) (p1:(List Int)):LeO (eK f p0 p1) (cy p0 p1):=by
 unfold eK cy
 repeat' first
  | with_reducible first|apply LeO.bind|apply lj|apply pT|apply LeO.guard|apply LeO.ite|apply LeO.loop|apply LeO.fold|exact LeO.refl _
  | (intro(u:Sum _ _);cases u <;> dsimp only)
  | intro _
def jr (f:Nat) (p0:TL) (p1:(List (Int × Bool))) (s5:(Int × Int × (List (Int × Bool)))):Option ((Int × Int × (List (Int × Bool))) ⊕ (Int × Int × (List (Int × Bool)))) :=
 (if decide (s5.2.1<(p0.fNo.length:Int))=true then ac ((0:Int)≤s5.2.1∧s5.2.1<(p0.fNo.length:Int)) (((if(((rdL p0.fNo s5.2.1).fLevel)==9)=true then(ac (cX ((rdL p0.fNo s5.2.1).fID)=true) (some (aw false p1 ((rdL p0.fNo s5.2.1).fID))))else(some (false))).bind fun b11=>(if b11=true then ac (cX ((rdL p0.fNo s5.2.1).fID)=true∧List.length s5.2.2<1000000000) (some (.inl (w64 (s5.1+((rdL p0.fNo s5.2.1).fCost)),w64 (s5.2.1+1),(((rdL p0.fNo s5.2.1).fID,true)::s5.2.2))))else some (.inl (s5.1,w64 (s5.2.1+1),s5.2.2)))))else some (.inr (s5.1,s5.2.1,s5.2.2)))
theorem ow (f:Nat) (p0:TL) (p1:(List (Int × Bool))) (s5:(Int × Int × (List (Int × Bool)))):LeO (jr f p0 p1 s5) (iD p0 p1 s5):=by
 unfold jr iD
 repeat' first
  | with_reducible first|apply LeO.bind|apply LeO.guard|apply LeO.ite|apply LeO.loop|apply LeO.fold|exact LeO.refl _
  | (intro(u:Sum _ _);cases u <;> dsimp only)
  | intro _
def gY (f:Nat) (p0:TL) (p1:(List (Int × Bool))):Option ((List Int) × Int) :=
 ((gU f (jr f p0 p1) (0,0,[])).bind fun u6=>((bt u6.2.2).bind fun y17=>some (y17,u6.1)))
theorem nb (f:Nat) (p0:TL) (p1:(List (Int × Bool))):LeO (gY f p0 p1) (gu p0 p1):=by
 unfold gY gu
 repeat' first
  | with_reducible first|apply LeO.bind|apply ow|apply LeO.guard|apply LeO.ite|apply LeO.loop|apply LeO.fold|exact LeO.refl _
  | (intro(u:Sum _ _);cases u <;> dsimp only)
  | intro _
def lu (f:Nat) (p0:TL) (p1:(List Int)) (p2:Bool):Option ((List Int) × Int × Int) :=
 ((eK f p0 p1).bind fun y2=>(if(y2 !=0)=true then some ([],0,y2)else((ct f p0 p1).bind fun y5=>(if p2=true then((gF f p0 p1).bind fun y9=>((gY f p0 y9).bind fun y12=>some (y12.1,y12.2,0)))else((gY f p0 y5).bind fun y18=>some (y18.1,y18.2,0))))))
theorem pS (f:Nat) (p0:TL) (p1:(List Int)) (p2:Bool):LeO (lu f p0 p1 p2) (iS p0 p1 p2):=by
 unfold lu iS
 repeat' first
  | with_reducible first|apply LeO.bind|apply gp|apply eD|apply jL|apply nb|apply LeO.guard|apply LeO.ite|apply LeO.loop|apply LeO.fold|exact LeO.refl _
  | (intro(u:Sum _ _);cases u <;> dsimp only)
  | intro _
def g4 (f:Nat) (p0:(List Int)) (p1:(List Int)) (s3:(Bool × Int)):Option ((Bool × Int) ⊕ ((Bool × Int) ⊕ (Bool × Int))) :=
 (if decide (s3.2<(p0.length:Int))=true then ac ((0:Int)≤s3.2∧s3.2<(p0.length:Int)) (ac ((0:Int)≤s3.2∧s3.2<(p1.length:Int)) ((if((rdL p0 s3.2) !=(rdL p1 s3.2))=true then some (.inr (.inl (false,s3.2)))else some (.inl (s3.1,w64 (s3.2+1))))))else some (.inr (.inr (s3.1,s3.2))))
theorem nw (f:Nat) (p0:(List Int)) (p1:(List Int)) (s3:(Bool × Int)):LeO (g4 f p0 p1 s3) (gB p0 p1 s3):=by
 unfold g4 gB
 repeat' first
  | with_reducible first|apply LeO.bind|apply LeO.guard|apply LeO.ite|apply LeO.loop|apply LeO.fold|exact LeO.refl _
  | (intro(u:Sum _ _);cases u <;> dsimp only)
  | intro _
def bT (f:Nat) (p0:(List Int)) (p1:(List Int)):Option Bool :=
 (if((p0.length:Int) !=(p1.length:Int))=true then some false else((gU f (g4 f p0 p1) (false,0)).bind fun u4=>match u4 with|(.inl u10)=>some u10.1|(.inr u11)=>some true))
theorem pt (f:Nat) (p0:(List Int)) (p1:(List Int)):LeO (bT f p0 p1) (bU p0 p1):=by
 unfold bT bU
 repeat' first
  | with_reducible first|apply LeO.bind|apply nw|apply LeO.guard|apply LeO.ite|apply LeO.loop|apply LeO.fold|exact LeO.refl _
  | (intro(u:Sum _ _);cases u <;> dsimp only)
  | intro _
def en (f:Nat) (p0:TL) (p1:(List Int)) (p2:Int):Option Int :=
 ((eK f p0 p1).bind fun y2=>(if(y2 !=0)=true then some y2 else((dp f p0 p2).bind fun y5=>(if decide (y5<0)=true then some 5 else some 0))))
theorem gG (f:Nat) (p0:TL) (p1:(List Int)) (p2:Int):LeO (en f p0 p1 p2) (aZ p0 p1 p2):=by
 unfold en aZ
 repeat' first
  | with_reducible first|apply LeO.bind|apply gp|apply fG|apply LeO.guard|apply LeO.ite|apply LeO.loop|apply LeO.fold|exact LeO.refl _
  | (intro(u:Sum _ _);cases u <;> dsimp only)
  | intro _
def ky (f:Nat) (p0:Int) (p1:Int) (cap0:(List Int)) (cap1:Int→Int→Option Bool):Option Bool :=
 ac ((0:Int)≤p0∧p0<(cap0.length:Int)) (((if((rdL cap0 p0)==p1)=true then((cap1 p0 p1).bind fun y5=>some (y5))else(some (false))).bind fun b3=>some b3))
theorem o5 (f:Nat) (p0:Int) (p1:Int) (cap0:(List Int)) (cap1 cap1':Int→Int→Option Bool) (hcap1:∀x0 x1,LeO (cap1 x0 x1) (cap1' x0 x1)):LeO (ky f p0 p1 cap0 cap1) (f5 p0 p1 cap0 cap1'):=by
 unfold ky f5
 repeat' first
  | with_reducible first|apply LeO.bind|apply hcap1|apply LeO.guard|apply LeO.ite|apply LeO.loop|apply LeO.fold|exact LeO.refl _
  | (intro(u:Sum _ _);cases u <;> dsimp only)
  | intro _
def jh (f:Nat) (p0:TL) (p1:(List Int)) (p2:Int) (p3:Int→Int→Option Bool) (s24:Bool) (x25:(List Int)):Option (Bool ⊕ Bool) :=
 ((eV f p0 p1 (fun x28 x29=>ky f x28 x29 x25 p3)).bind fun y30=>ac (cX p2=true) ((if aw false y30 p2=true then some (.inr true)else some (.inl s24))))
theorem oT (f:Nat) (p0:TL) (p1:(List Int)) (p2:Int) (p3 p3':Int→Int→Option Bool) (hp3_so:∀x0 x1,LeO (p3 x0 x1) (p3' x0 x1)) (s24:Bool) (x25:(List Int)):LeO (jh f p0 p1 p2 p3 s24 x25) (iU p0 p1 p2 p3' s24 x25):=by
 unfold jh iU
 repeat' first
  | with_reducible first|apply LeO.bind|apply hp3_so|apply o5|apply gt|apply LeO.guard|apply LeO.ite|apply LeO.loop|apply LeO.fold|exact LeO.refl _
  | (intro(u:Sum _ _);cases u <;> dsimp only)
  | intro _
def eO (f:Nat) (p0:TL) (p1:(List Int)) (p2:Int) (p3:Int→Int→Option Bool):Option Bool :=
 ((eV f p0 p1 p3).bind fun y6=>ac (cX p2=true) ((if(!(aw false y6 p2))=true then some false else((eS f p0).bind fun y11=>(ac (bX p0) ((fz (jh f p0 p1 p2 p3) (sCs p0) false).bind fun u26=>match u26 with|.inl u37=>some false|.inr u38=>some u38))))))
theorem gq (f:Nat) (p0:TL) (p1:(List Int)) (p2:Int) (p3 p3':Int→Int→Option Bool) (hp3_so:∀x0 x1,LeO (p3 x0 x1) (p3' x0 x1)):LeO (eO f p0 p1 p2 p3) (eE p0 p1 p2 p3'):=by
 unfold eO eE
 repeat' first
  | with_reducible first|apply LeO.bind|apply hp3_so|apply gm|apply oT|apply gt|apply LeO.guard|apply LeO.ite|apply LeO.loop|apply LeO.fold|exact LeO.refl _
  | (intro(u:Sum _ _);cases u <;> dsimp only)
  | intro _
def gi (f:Nat) (p0:Int) (p1:Int):Option Bool :=
 some true
theorem lw (f:Nat) (p0:Int) (p1:Int):LeO (gi f p0 p1) (cO p0 p1):=by
 unfold gi cO
 repeat' first
  | with_reducible first|apply LeO.bind|apply LeO.guard|apply LeO.ite|apply LeO.loop|apply LeO.fold|exact LeO.refl _
  | (intro(u:Sum _ _);cases u <;> dsimp only)
  | intro _
def kv (f:Nat) (p0:Int) (p1:Int) (cap0:Int):Option Bool :=
 some (p0 !=cap0)
theorem pf (f:Nat) (p0:Int) (p1:Int) (cap0:Int):LeO (kv f p0 p1 cap0) (fV p0 p1 cap0):=by
 unfold kv fV
 repeat' first
  | with_reducible first|apply LeO.bind|apply LeO.guard|apply LeO.ite|apply LeO.loop|apply LeO.fold|exact LeO.refl _
  | (intro(u:Sum _ _);cases u <;> dsimp only)
  | intro _
def jq (f:Nat) (p0:TL) (p1:(List Int)) (p2:Int) (s12:(Int × (List Int))):Option ((Int × (List Int)) ⊕ (Int × (List Int))) :=
 (if decide (s12.1<(p0.fC.length:Int))=true then ac ((0:Int)≤s12.1∧s12.1<(p0.fC.length:Int)) (((eO f p0 p1 p2 (fun x18 x19=>kv f x18 x19 s12.1)).bind fun y20=>(if(!y20)=true then ac (s12.2.length+1≤1000000000) (some (.inl (w64 (s12.1+1),(s12.2++[(rdL p0.fC s12.1).fID]))))else some (.inl (w64 (s12.1+1),s12.2)))))else some (.inr (s12.1,s12.2)))
theorem nV (f:Nat) (p0:TL) (p1:(List Int)) (p2:Int) (s12:(Int × (List Int))):LeO (jq f p0 p1 p2 s12) (iF p0 p1 p2 s12):=by
 unfold jq iF
 repeat' first
  | with_reducible first|apply LeO.bind|apply pf|apply gq|apply LeO.guard|apply LeO.ite|apply LeO.loop|apply LeO.fold|exact LeO.refl _
  | (intro(u:Sum _ _);cases u <;> dsimp only)
  | intro _
def l8 (f:Nat) (p0:TL) (p1:(List Int)) (p2:Int):Option ((List Int) × Int) :=
 ((en f p0 p1 p2).bind fun y2=>(if(y2 !=0)=true then some ([],y2)else((eO f p0 p1 p2 (fun x5 x6=>gi f x5 x6)).bind fun y7=>(if(!y7)=true then some ([],5)else((gU f (jq f p0 p1 p2) (0,([]:List Int))).bind fun u13=>((bS u13.2).bind fun y28=>some (y28,0)))))))
theorem qM (f:Nat) (p0:TL) (p1:(List Int)) (p2:Int):LeO (l8 f p0 p1 p2) (jM p0 p1 p2):=by
 unfold l8 jM
 repeat' first
  | with_reducible first|apply LeO.bind|apply nV|apply lw|apply gG|apply gq|apply LeO.guard|apply LeO.ite|apply LeO.loop|apply LeO.fold|exact LeO.refl _
  | (intro(u:Sum _ _);cases u <;> dsimp only)
  | intro _
def eW (f:Nat) (p0:(List Int)) (p1:Int) (s2:(Int × Int)):Option ((Int × Int) ⊕ ((Int × Int) ⊕ (Int × Int))) :=
 (if decide (s2.2<(p0.length:Int))=true then ac ((0:Int)≤s2.2∧s2.2<(p0.length:Int)) ((if(p1==(rdL p0 s2.2))=true then some (.inr (.inl (s2.2,s2.2)))else some (.inl (s2.1,w64 (s2.2+1)))))else some (.inr (.inr (s2.1,s2.2))))
theorem lI (f:Nat) (p0:(List Int)) (p1:Int) (s2:(Int × Int)):LeO (eW f p0 p1 s2) (bh p0 p1 s2):=by
 unfold eW bh
 repeat' first
  | with_reducible first|apply LeO.bind|apply LeO.guard|apply LeO.ite|apply LeO.loop|apply LeO.fold|exact LeO.refl _
  | (intro(u:Sum _ _);cases u <;> dsimp only)
  | intro _
def f8 (f:Nat) (p0:(List Int)) (p1:Int):Option Int :=
 ((gU f (eW f p0 p1) (0,0)).bind fun u3=>match u3 with|(.inl u8)=>some u8.1|(.inr u9)=>some (-1))
theorem my (f:Nat) (p0:(List Int)) (p1:Int):LeO (f8 f p0 p1) (bY p0 p1):=by
 unfold f8 bY
 repeat' first
  | with_reducible first|apply LeO.bind|apply lI|apply LeO.guard|apply LeO.ite|apply LeO.loop|apply LeO.fold|exact LeO.refl _
  | (intro(u:Sum _ _);cases u <;> dsimp only)
  | intro _
def dc (f:Nat) (p0:(List Int)) (p1:Int):Option Bool :=
 ((f8 f p0 p1).bind fun y1=>some (decide (0≤y1)))
theorem gI (f:Nat) (p0:(List Int)) (p1:Int):LeO (dc f p0 p1) (aL p0 p1):=by
 unfold dc aL
 repeat' first
  | with_reducible first|apply LeO.bind|apply my|apply LeO.guard|apply LeO.ite|apply LeO.loop|apply LeO.fold|exact LeO.refl _
  | (intro(u:Sum _ _);cases u <;> dsimp only)
  | intro _
def kh (f:Nat) (p0:Int) (p1:Int) (cap0:TL) (cap1:TN):Option Bool :=
 ac ((0:Int)≤p0∧p0<(cap0.fC.length:Int)) (ac ((0:Int)≤p1∧p1<(((rdL cap0.fC p0).fO.length:Nat):Int)) (some (((rdL ((rdL cap0.fC p0).fO) p1).fTo) !=cap1.fID)))
theorem px (f:Nat) (p0:Int) (p1:Int) (cap0:TL) (cap1:TN):LeO (kh f p0 p1 cap0 cap1) (fW p0 p1 cap0 cap1):=by
 unfold kh fW
 repeat' first
  | with_reducible first|apply LeO.bind|apply LeO.guard|apply LeO.ite|apply LeO.loop|apply LeO.fold|exact LeO.refl _
  | (intro(u:Sum _ _);cases u <;> dsimp only)
  | intro _
def ju (f:Nat) (p0:TL) (p1:(List Int)) (p2:Int) (s12:(Int × (List Int))):Option ((Int × (List Int)) ⊕ (Int × (List Int))) :=
 (if decide (s12.1<(p0.fNo.length:Int))=true then ac ((0:Int)≤s12.1∧s12.1<(p0.fNo.length:Int)) (((if(((rdL p0.fNo s12.1).fID)==p2)=true then(some (true))else((dc f p1 ((rdL p0.fNo s12.1).fID)).bind fun y30=>some (y30))).bind fun b18=>(if b18=true then some (.inl (w64 (s12.1+1),s12.2))else((eO f p0 p1 p2 (fun x21 x22=>kh f x21 x22 p0 (TN.mk ((rdL p0.fNo s12.1).fID) ((rdL p0.fNo s12.1).fLevel) ((rdL p0.fNo s12.1).fCost)))).bind fun y23=>(if(!y23)=true then ac (s12.2.length+1≤1000000000) (some (.inl (w64 (s12.1+1),(s12.2++[(rdL p0.fNo s12.1).fID]))))else some (.inl (w64 (s12.1+1),s12.2)))))))else some (.inr (s12.1,s12.2)))
theorem n7 (f:Nat) (p0:TL) (p1:(List Int)) (p2:Int) (s12:(Int × (List Int))):LeO (ju f p0 p1 p2 s12) (iy p0 p1 p2 s12):=by
 unfold ju iy
 repeat' first
  | with_reducible first|apply LeO.bind|apply px|apply gq|apply gI|apply LeO.guard|apply LeO.ite|apply LeO.loop|apply LeO.fold|exact LeO.refl _
  | (intro(u:Sum _ _);cases u <;> dsimp only)
  | intro _
def l3 (f:Nat) (p0:TL) (p1:(List Int)) (p2:Int):Option ((List Int) × Int) :=
 ((en f p0 p1 p2).bind fun y2=>(if(y2 !=0)=true then some ([],y2)else((eO f p0 p1 p2 (fun x5 x6=>gi f x5 x6)).bind fun y7=>(if(!y7)=true then some ([],5)else((gU f (ju f p0 p1 p2) (0,([]:List Int))).bind fun u13=>((bS u13.2).bind fun y33=>some (y33,0)))))))
theorem q9 (f:Nat) (p0:TL) (p1:(List Int)) (p2:Int):LeO (l3 f p0 p1 p2) (j6 p0 p1 p2):=by
 unfold l3 j6
 repeat' first
  | with_reducible first|apply LeO.bind|apply n7|apply lw|apply gG|apply gq|apply LeO.guard|apply LeO.ite|apply LeO.loop|apply LeO.fold|exact LeO.refl _
  | (intro(u:Sum _ _);cases u <;> dsimp only)
  | intro _
def ji (f:Nat) (p0:TL) (p1:(List Int)) (p2:Int) (s23:(Int × Int)) (x24:(List Int)):Option ((Int × Int) ⊕ Unit) :=
 ((gn f x24).bind fun y27=>((eV f p0 p1 (fun x29 x30=>ez f x24 x29 x30)).bind fun y31=>ac (cX p2=true) ((if aw false y31 p2=true then some (.inl (w64 (s23.1+1),w64 (s23.2+1)))else some (.inl (s23.1,w64 (s23.2+1)))))))
theorem oE (f:Nat) (p0:TL) (p1:(List Int)) (p2:Int) (s23:(Int × Int)) (x24:(List Int)):LeO (ji f p0 p1 p2 s23 x24) (iw p0 p1 p2 s23 x24):=by
 unfold ji iw
 repeat' first
  | with_reducible first|apply LeO.bind|apply g7|apply ko|apply gt|apply LeO.guard|apply LeO.ite|apply LeO.loop|apply LeO.fold|exact LeO.refl _
  | (intro(u:Sum _ _);cases u <;> dsimp only)
  | intro _
def jg (f:Nat) (s40:(Int × Int)):Option ((Int × Int) ⊕ (Int × Int)) :=
 (if decide (0<s40.2)=true then ac (s40.2≠0) (some (.inl (s40.2,Int.tmod s40.1 s40.2)))else some (.inr (s40.1,s40.2)))
theorem nU (f:Nat) (s40:(Int × Int)):LeO (jg f s40) (iJ s40):=by
 unfold jg iJ
 repeat' first
  | with_reducible first|apply LeO.bind|apply LeO.guard|apply LeO.ite|apply LeO.loop|apply LeO.fold|exact LeO.refl _
  | (intro(u:Sum _ _);cases u <;> dsimp only)
  | intro _
def l0 (f:Nat) (p0:TL) (p1:(List Int)) (p2:Int):Option (TRatio × Int) :=
 ((en f p0 p1 p2).bind fun y5=>(if(y5 !=0)=true then some ((TRatio.mk 0 0),y5)else((eS f p0).bind fun y10=>(ac (bX p0) ((fz (ji f p0 p1 p2) (sCs p0) (0,0)).bind fun u25=>match u25 with|.inl u38=>((gU f (jg f) (u38.1,u38.2)).bind fun u41=>ac (u41.1≠0) (ac (u41.1≠0) (some ((TRatio.mk (w64 (Int.tdiv u38.1 u41.1)) (w64 (Int.tdiv u38.2 u41.1))),0))))|.inr _=>none)))))
theorem qH (f:Nat) (p0:TL) (p1:(List Int)) (p2:Int):LeO (l0 f p0 p1 p2) (j8 p0 p1 p2):=by
 unfold l0 j8
 repeat' first
  | with_reducible first|apply LeO.bind|apply nU|apply oE|apply gG|apply gm|apply LeO.guard|apply LeO.ite|apply LeO.loop|apply LeO.fold|exact LeO.refl _
  | (intro(u:Sum _ _);cases u <;> dsimp only)
  | intro _
def lV (f:Nat) (p0:TL) (p1:(List Int)):Option Int :=
 ((ct f p0 p1).bind fun y2=>((gF f p0 p1).bind fun y5=>((gY f p0 (tT y5 y2)).bind fun y23=>some y23.2)))
theorem qW (f:Nat) (p0:TL) (p1:(List Int)):LeO (lV f p0 p1) (jU p0 p1):=by
 unfold lV jU
 repeat' first
  | with_reducible first|apply LeO.bind|apply eD|apply jL|apply nb|apply LeO.guard|apply LeO.ite|apply LeO.loop|apply LeO.fold|exact LeO.refl _
  | (intro(u:Sum _ _);cases u <;> dsimp only)
  | intro _
def dX (f:Nat) (p0:(List TH)):Option (List TH) :=
 ac (0+p0.length≤1000000000) (some (([]:List TH)++p0))
theorem iZ (f:Nat) (p0:(List TH)):LeO (dX f p0) (bL p0):=by
 unfold dX bL
 repeat' first
  | with_reducible first|apply LeO.bind|apply LeO.guard|apply LeO.ite|apply LeO.loop|apply LeO.fold|exact LeO.refl _
  | (intro(u:Sum _ _);cases u <;> dsimp only)
  | intro _
def fm (f:Nat) (p0:(List TN)):Option (List TN) :=
 ac (0+p0.length≤1000000000) (some (([]:List TN)++p0))
theorem lZ (f:Nat) (p0:(List TN)):LeO (fm f p0) (cg p0):=by
 unfold fm cg
 repeat' first
  | with_reducible first|apply LeO.bind|apply LeO.guard|apply LeO.ite|apply LeO.loop|apply LeO.fold|exact LeO.refl _
  | (intro(u:Sum _ _);cases u <;> dsimp only)
  | intro _
def dZ (f:Nat) (p0:(List TC)):Option (List TC) :=
 ac (0+p0.length≤1000000000) (some (([]:List TC)++p0))
theorem lg (f:Nat) (p0:(List TC)):LeO (dZ f p0) (bc p0):=by
 unfold dZ bc
 repeat' first
  | with_reducible first|apply LeO.bind|apply LeO.guard|apply LeO.ite|apply LeO.loop|apply LeO.fold|exact LeO.refl _
  | (intro(u:Sum _ _);cases u <;> dsimp only)
  | intro _
def iY (f:Nat) (y10:(List TC)) (s22:(Int × (List TC))):Option ((Int × (List TC)) ⊕ (Int × (List TC))) :=
 (if decide (s22.1<(y10.length:Int))=true then ac ((0:Int)≤s22.1∧s22.1<(y10.length:Int)) (((dX f ((rdL s22.2 s22.1).fO)).bind fun y26=>ac ((0:Int)≤s22.1∧s22.1<(y10.length:Int)) (some (.inl (w64 (s22.1+1),(s22.2.set (Int.toNat s22.1) (TC.mk ((rdL s22.2 s22.1).fID) y26)))))))else some (.inr (s22.1,s22.2)))
theorem nH (f:Nat) (y10:(List TC)) (s22:(Int × (List TC))):LeO (iY f y10 s22) (cP y10 s22):=by
 unfold iY cP
 repeat' first
  | with_reducible first|apply LeO.bind|apply iZ|apply LeO.guard|apply LeO.ite|apply LeO.loop|apply LeO.fold|exact LeO.refl _
  | (intro(u:Sum _ _);cases u <;> dsimp only)
  | intro _
def ly (f:Nat) (p0:TL):Option TL :=
 ((fm f p0.fNo).bind fun y4=>((dZ f p0.fC).bind fun y10=>((gU f (iY f y10) (0,y10)).bind fun u23=>some (TL.mk y4 u23.2))))
theorem qe (f:Nat) (p0:TL):LeO (ly f p0) (eB p0):=by
 unfold ly eB
 repeat' first
  | with_reducible first|apply LeO.bind|apply nH|apply lg|apply lZ|apply LeO.guard|apply LeO.ite|apply LeO.loop|apply LeO.fold|exact LeO.refl _
  | (intro(u:Sum _ _);cases u <;> dsimp only)
  | intro _
def mz (f:Nat) (p0:TL) (p1:Int) (p2:(List TH)):Option TL :=
 ((ly f p0).bind fun y3=>((dX f p2).bind fun y22=>ac ((0:Int)≤p1∧p1<(y3.fC.length:Int)) (some (TL.mk y3.fNo (y3.fC.set (Int.toNat p1) (TC.mk ((rdL y3.fC p1).fID) y22))))))
theorem rC (f:Nat) (p0:TL) (p1:Int) (p2:(List TH)):LeO (mz f p0 p1 p2) (lD p0 p1 p2):=by
 unfold mz lD
 repeat' first
  | with_reducible first|apply LeO.bind|apply qe|apply iZ|apply LeO.guard|apply LeO.ite|apply LeO.loop|apply LeO.fold|exact LeO.refl _
  | (intro(u:Sum _ _);cases u <;> dsimp only)
  | intro _
def cl (f:Nat) (p0:(List Tasking)) (p1:Tasking→Tasking→Option Bool) (s5:(Int × Int × Int)):Option ((Int × Int × Int) ⊕ (Int × Int × Int)) :=
 (if decide (s5.1<(p0.length:Int))=true then ac ((0:Int)≤s5.1∧s5.1<(p0.length:Int)) (((if(s5.1==0)=true then(some (true))else((p1 (Tasking.mk ((rdL p0 s5.1).f_id) ((rdL p0 s5.1).f_left)) (Tasking.mk s5.2.1 s5.2.2)).bind fun y14=>some (y14))).bind fun b11=>(if b11=true then some (.inl (w64 (s5.1+1),(rdL p0 s5.1).f_id,(rdL p0 s5.1).f_left))else some (.inl (w64 (s5.1+1),s5.2.1,s5.2.2)))))else some (.inr (s5.1,s5.2.1,s5.2.2)))
theorem gL (f:Nat) (p0:(List Tasking)) (p1 p1':Tasking→Tasking→Option Bool) (hp1_less:∀x0 x1,LeO (p1 x0 x1) (p1' x0 x1)) (s5:(Int × Int × Int)):LeO (cl f p0 p1 s5) (bJ p0 p1' s5):=by
 unfold cl bJ
 repeat' first
  | with_reducible first|apply LeO.bind|apply hp1_less|apply LeO.guard|apply LeO.ite|apply LeO.loop|apply LeO.fold|exact LeO.refl _
  | (intro(u:Sum _ _);cases u <;> dsimp only)
  | intro _
def cG (f:Nat) (p0:(List Tasking)) (p1:Tasking→Tasking→Option Bool):Option (Tasking × Bool) :=
 ((gU f (cl f p0 p1) (0,0,0)).bind fun u6=>some ((Tasking.mk u6.2.1 u6.2.2),decide (0<(p0.length:Int))))
theorem iq (f:Nat) (p0:(List Tasking)) (p1 p1':Tasking→Tasking→Option Bool) (hp1_less:∀x0 x1,LeO (p1 x0 x1) (p1' x0 x1)):LeO (cG f p0 p1) (bw p0 p1'):=by
 unfold cG bw
 repeat' first
  | with_reducible first|apply LeO.bind|apply hp1_less|apply gL|apply LeO.guard|apply LeO.ite|apply LeO.loop|apply LeO.fold|exact LeO.refl _
  | (intro(u:Sum _ _);cases u <;> dsimp only)
  | intro _
def l7 (f:Nat) (p0:Tasking) (p1:Tasking):Option Bool :=
 some ((decide (p0.f_left<p1.f_left))||((p0.f_left==p1.f_left)&&(decide (p0.f_id<p1.f_id))))
theorem qG (f:Nat) (p0:Tasking) (p1:Tasking):LeO (l7 f p0 p1) (ig p0 p1):=by
 unfold l7 ig
 repeat' first
  | with_reducible first|apply LeO.bind|apply LeO.guard|apply LeO.ite|apply LeO.loop|apply LeO.fold|exact LeO.refl _
  | (intro(u:Sum _ _);cases u <;> dsimp only)
  | intro _
def lh (f:Nat) (p0:TL) (p1:(List Int)) (s7:(Int × (List Tasking))) (s16:(Int × Int)):Option ((Int × Int) ⊕ (Int × Int)) :=
 (if decide (s16.1<(((rdL p0.fC s7.1).fO.length:Nat):Int))=true then ac ((0:Int)≤s16.1∧s16.1≤w64 (s16.1+1)∧w64 (s16.1+1)≤w64 (s16.1+1)∧w64 (s16.1+1)≤(((rdL p0.fC s7.1).fO.length:Nat):Int)) (((mz f p0 s7.1 ((((rdL p0.fC s7.1).fO).drop (Int.toNat s16.1)).take (Int.toNat (w64 (s16.1+1))-Int.toNat s16.1))).bind fun y20=>((lV f y20 p1).bind fun y34=>some (.inl (w64 (s16.1+1),max s16.2 y34)))))else some (.inr (s16.1,s16.2)))
theorem qh (f:Nat) (p0:TL) (p1:(List Int)) (s7:(Int × (List Tasking))) (s16:(Int × Int)):LeO (lh f p0 p1 s7 s16) (kL p0 p1 s7 s16):=by
 unfold lh kL
 repeat' first
  | with_reducible first|apply LeO.bind|apply qW|apply rC|apply LeO.guard|apply LeO.ite|apply LeO.loop|apply LeO.fold|exact LeO.refl _
  | (intro(u:Sum _ _);cases u <;> dsimp only)
  | intro _
def ll (f:Nat) (p0:TL) (p1:(List Int)) (s7:(Int × (List Tasking))):Option ((Int × (List Tasking)) ⊕ (Int × (List Tasking))) :=
 (if decide (s7.1<(p0.fC.length:Int))=true then ac ((0:Int)≤s7.1∧s7.1<(p0.fC.length:Int)) ((if decide ((((rdL p0.fC s7.1).fO.length:Nat):Int)<2)=true then some (.inl (w64 (s7.1+1),s7.2))else((gU f (lh f p0 p1 s7) (0,0)).bind fun u17=>ac (s7.2.length+1≤1000000000) (some (.inl (w64 (s7.1+1),(s7.2++[(Tasking.mk ((rdL p0.fC s7.1).fID) u17.2)])))))))else some (.inr (s7.1,s7.2)))
theorem p9 (f:Nat) (p0:TL) (p1:(List Int)) (s7:(Int × (List Tasking))):LeO (ll f p0 p1 s7) (kG p0 p1 s7):=by
 unfold ll kG
 repeat' first
  | with_reducible first|apply LeO.bind|apply qh|apply LeO.guard|apply LeO.ite|apply LeO.loop|apply LeO.fold|exact LeO.refl _
  | (intro(u:Sum _ _);cases u <;> dsimp only)
  | intro _
def ne (f:Nat) (p0:TL) (p1:(List Int)):Option (Int × Int × Int) :=
 ((eK f p0 p1).bind fun y2=>(if(y2 !=0)=true then some (0,0,y2)else((gU f (ll f p0 p1) (0,([]:List Tasking))).bind fun u8=>((cG f u8.2 (fun x54 x55=>l7 f x54 x55)).bind fun y56=>(if(!y56.2)=true then some (0,0,5)else some (y56.1.f_id,y56.1.f_left,0))))))
theorem sx (f:Nat) (p0:TL) (p1:(List Int)):LeO (ne f p0 p1) (mg p0 p1):=by
 unfold ne mg
 repeat' first
  | with_reducible first|apply LeO.bind|apply qG|apply p9|apply gp|apply iq|apply LeO.guard|apply LeO.ite|apply LeO.loop|apply LeO.fold|exact LeO.refl _
  | (intro(u:Sum _ _);cases u <;> dsimp only)
  | intro _
def ku (f:Nat) (p0:Int) (p1:Int) (cap0:(List (Int × Bool))) (cap1:TL):Option Bool :=
 ac ((0:Int)≤p0∧p0<(cap1.fC.length:Int)) (ac (cX ((rdL cap1.fC p0).fID)=true) (some (!(aw false cap0 ((rdL cap1.fC p0).fID)))))
theorem pa (f:Nat) (p0:Int) (p1:Int) (cap0:(List (Int × Bool))) (cap1:TL):LeO (ku f p0 p1 cap0 cap1) (fM p0 p1 cap0 cap1):=by
 unfold ku fM
 repeat' first
  | with_reducible first|apply LeO.bind|apply LeO.guard|apply LeO.ite|apply LeO.loop|apply LeO.fold|exact LeO.refl _
  | (intro(u:Sum _ _);cases u <;> dsimp only)
  | intro _
def l4 (f:Nat) (p0:TL) (p1:(List Int)) (p2:Int) (p3:(List (Int × Bool))):Option Bool :=
 ((eO f p0 p1 p2 (fun x3 x4=>ku f x3 x4 p3 p0)).bind fun y5=>some (!y5))
theorem qp (f:Nat) (p0:TL) (p1:(List Int)) (p2:Int) (p3:(List (Int × Bool))):LeO (l4 f p0 p1 p2 p3) (jT p0 p1 p2 p3):=by
 unfold l4 jT
 repeat' first
  | with_reducible first|apply LeO.bind|apply pa|apply gq|apply LeO.guard|apply LeO.ite|apply LeO.loop|apply LeO.fold|exact LeO.refl _
  | (intro(u:Sum _ _);cases u <;> dsimp only)
  | intro _
def kX (f:Nat) (p0:TL) (s11:(Int × (List (Int × Bool)))):Option ((Int × (List (Int × Bool))) ⊕ (Int × (List (Int × Bool)))) :=
 (if decide (s11.1<(p0.fC.length:Int))=true then ac ((0:Int)≤s11.1∧s11.1<(p0.fC.length:Int)) (ac (cX ((rdL p0.fC s11.1).fID)=true∧List.length s11.2<1000000000) (some (.inl (w64 (s11.1+1),(((rdL p0.fC s11.1).fID,true)::s11.2)))))else some (.inr (s11.1,s11.2)))
theorem qk (f:Nat) (p0:TL) (s11:(Int × (List (Int × Bool)))):LeO (kX f p0 s11) (kJ p0 s11):=by
 unfold kX kJ
 repeat' first
  | with_reducible first|apply LeO.bind|apply LeO.guard|apply LeO.ite|apply LeO.loop|apply LeO.fold|exact LeO.refl _
  | (intro(u:Sum _ _);cases u <;> dsimp only)
  | intro _
def kU (f:Nat) (p0:TL) (p1:(List Int)) (p2:Int) (y18:(List Int)) (s26:(Int × (List (Int × Bool)))):Option ((Int × (List (Int × Bool))) ⊕ (Int × (List (Int × Bool)))) :=
 (if decide (s26.1<(y18.length:Int))=true then ac ((0:Int)≤s26.1∧s26.1<(y18.length:Int)) (ac (cX (rdL y18 s26.1)=true∧List.length s26.2<1000000000) (((l4 f p0 p1 p2 (((rdL y18 s26.1),false)::s26.2)).bind fun y31=>(if(!y31)=true then ac (cX (rdL y18 s26.1)=true∧List.length (((rdL y18 s26.1),false)::s26.2)<1000000000) (some (.inl (w64 (s26.1+1),(((rdL y18 s26.1),true)::(((rdL y18 s26.1),false)::s26.2)))))else some (.inl (w64 (s26.1+1),(((rdL y18 s26.1),false)::s26.2)))))))else some (.inr (s26.1,s26.2)))
theorem pX (f:Nat) (p0:TL) (p1:(List Int)) (p2:Int) (y18:(List Int)) (s26:(Int × (List (Int × Bool)))):LeO (kU f p0 p1 p2 y18 s26) (kA p0 p1 p2 y18 s26):=by
 unfold kU kA
 repeat' first
  | with_reducible first|apply LeO.bind|apply qp|apply LeO.guard|apply LeO.ite|apply LeO.loop|apply LeO.fold|exact LeO.refl _
  | (intro(u:Sum _ _);cases u <;> dsimp only)
  | intro _
def mV (f:Nat) (p0:TL) (p1:(List Int)) (p2:Int):Option ((List Int) × Int) :=
 ((en f p0 p1 p2).bind fun y2=>(if(y2 !=0)=true then some ([],y2)else((dc f p1 p2).bind fun y5=>(if y5=true then some ([],5)else((gU f (kX f p0) (0,[])).bind fun u12=>((bt u12.2).bind fun y18=>((gU f (kU f p0 p1 p2 y18) (0,u12.2)).bind fun u27=>((bt u27.2).bind fun y36=>some (y36,0)))))))))
theorem si (f:Nat) (p0:TL) (p1:(List Int)) (p2:Int):LeO (mV f p0 p1 p2) (mp p0 p1 p2):=by
 unfold mV mp
 repeat' first
  | with_reducible first|apply LeO.bind|apply qk|apply pX|apply gG|apply gI|apply LeO.guard|apply LeO.ite|apply LeO.loop|apply LeO.fold|exact LeO.refl _
  | (intro(u:Sum _ _);cases u <;> dsimp only)
  | intro _
def kZ (f:Nat) (p0:TL) (p1:(List Int)):Option ((List Int) × Int) :=
 ((eK f p0 p1).bind fun y2=>(if(y2 !=0)=true then some ([],y2)else((gF f p0 p1).bind fun y5=>((bt y5).bind fun y8=>some (y8,0)))))
theorem pQ (f:Nat) (p0:TL) (p1:(List Int)):LeO (kZ f p0 p1) (eC p0 p1):=by
 unfold kZ eC
 repeat' first
  | with_reducible first|apply LeO.bind|apply gp|apply jL|apply LeO.guard|apply LeO.ite|apply LeO.loop|apply LeO.fold|exact LeO.refl _
  | (intro(u:Sum _ _);cases u <;> dsimp only)
  | intro _
def jl (f:Nat) (p0:TL) (p1:(List Int)):Option ((List Int) × Int) :=
 ((eK f p0 p1).bind fun y2=>(if(y2 !=0)=true then some ([],y2)else((ct f p0 p1).bind fun y5=>((bt y5).bind fun y8=>some (y8,0)))))
theorem oP (f:Nat) (p0:TL) (p1:(List Int)):LeO (jl f p0 p1) (dh p0 p1):=by
 unfold jl dh
 repeat' first
  | with_reducible first|apply LeO.bind|apply gp|apply eD|apply LeO.guard|apply LeO.ite|apply LeO.loop|apply LeO.fold|exact LeO.refl _
  | (intro(u:Sum _ _);cases u <;> dsimp only)
  | intro _
def hU (f:Nat)  : Option TL :=
 some (TL.mk [(TN.mk 1 0 0),(TN.mk 2 0 0),(TN.mk 3 3 0),(TN.mk 4 3 0),(TN.mk 5 9 10),(TN.mk 6 9 7)] [(TC.mk 11 [(TH.mk 1 3)]),(TC.mk 12 [(TH.mk 1 4),(TH.mk 2 4)]),(TC.mk 13 [(TH.mk 3 5)]),(TC.mk 14 [(TH.mk 4 5),(TH.mk 4 6)])])
theorem nu (f:Nat):LeO (hU f) (fi):=by
 unfold hU fi
 repeat' first
  | with_reducible first|apply LeO.bind|apply LeO.guard|apply LeO.ite|apply LeO.loop|apply LeO.fold|exact LeO.refl _
  | (intro(u:Sum _ _);cases u <;> dsimp only)
  | intro _
def js (f:Nat) (s19:Int) (x20:(List Int)):Option (Int ⊕ Unit) :=
 some (.inl (w64 (s19+1)))
theorem ol (f:Nat) (s19:Int) (x20:(List Int)):LeO (js f s19 x20) (iH s19 x20):=by
 unfold js iH
 repeat' first
  | with_reducible first|apply LeO.bind|apply LeO.guard|apply LeO.ite|apply LeO.loop|apply LeO.fold|exact LeO.refl _
  | (intro(u:Sum _ _);cases u <;> dsimp only)
  | intro _
def lW (f:Nat) (p0:TL):Option (Int × Int) :=
 ((gR f p0).bind fun y2=>(if(y2 !=0)=true then some (0,y2)else((eS f p0).bind fun y6=>(ac (bX p0) ((fz (js f) (sCs p0) 0).bind fun u21=>match u21 with|.inl u24=>some (u24,0)|.inr _=>none)))))
theorem qx (f:Nat) (p0:TL):LeO (lW f p0) (jR p0):=by
 unfold lW jR
 repeat' first
  | with_reducible first|apply LeO.bind|apply ol|apply lj|apply gm|apply LeO.guard|apply LeO.ite|apply LeO.loop|apply LeO.fold|exact LeO.refl _
  | (intro(u:Sum _ _);cases u <;> dsimp only)
  | intro _
def mP (f:Nat)  : Option Bool :=
 ((hU f).bind fun y1=>((lW f y1).bind fun y20=>((kZ f y1 [1]).bind fun y23=>((jl f y1 [2]).bind fun y30=>((l8 f y1 [1] 6).bind fun y37=>((l3 f y1 [1] 6).bind fun y44=>((mV f y1 [1] 5).bind fun y51=>((l0 f y1 [2] 5).bind fun y58=>((lu f y1 [1] false).bind fun y62=>((ne f y1 [1]).bind fun y69=>((kc f y1 5).bind fun y71=>(if((((((((((y20.2 !=0)||(y23.2 !=0))||(y30.2 !=0))||(y37.2 !=0))||(y44.2 !=0))||(y51.2 !=0))||(y58.2 !=0))||(y62.2.2 !=0))||(y69.2.2 !=0))||(y71.2.2 !=0))=true then some false else((bT f y23.1 [1,3,5]).bind fun y92=>((if y92=true then((bT f y30.1 [2,4,5,6]).bind fun y137=>some (y137))else(some (false))).bind fun b95=>((if b95=true then((bT f y37.1 [12,14]).bind fun y134=>some (y134))else(some (false))).bind fun b98=>((if b98=true then((bT f y44.1 [4]).bind fun y131=>some (y131))else(some (false))).bind fun b101=>((bT f y51.1 [13,14]).bind fun y104=>((if y104=true then((bT f y62.1 [5,6]).bind fun y128=>some (y128))else(some (false))).bind fun b107=>((if b107=true then((bT f y71.1 [1]).bind fun y125=>some (y125))else(some (false))).bind fun b110=>((if b110=true then((bT f y71.2.1 [1,2]).bind fun y122=>some (y122))else(some (false))).bind fun b113=>some ((((((b101&&b113)&&(y20.1==4))&&((y58.1.fNum==1)&&(y58.1.fDen==4)))&&(y62.2.1==17))&&(y69.1==12))&&(y69.2.1==7))))))))))))))))))))))
theorem pv (f:Nat):LeO (mP f) (fR):=by
 unfold mP fR
 repeat' first
  | with_reducible first|apply LeO.bind|apply nu|apply pt|apply sx|apply qx|apply si|apply q9|apply qM|apply o4|apply oP|apply pS|apply qH|apply pQ|apply LeO.guard|apply LeO.ite|apply LeO.loop|apply LeO.fold|exact LeO.refl _
  | (intro(u:Sum _ _);cases u <;> dsimp only)
  | intro _
end Go.Proofs.YtbblpokfbmekfaaGreat
